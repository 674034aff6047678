import Derived.Test.YtdlobimnfmjonaaGreatDoorE3
import Derived.Test.YtdlobimnfmjonaaGreatDoorTab
set_option maxRecDepth 100000
set_option maxHeartbeats 2000000
set_option linter.unusedVariables false
set_option linter.unusedSimpArgs false
namespace Go.Proofs
open Go Go.Ab
inductive Z9 where
 | mk (ai:Int) (bA:Int) (bp:Bs) (YG:Bool) (YH:List Z9) (aR:(Sl Bs))
def Z9.ai:Z9->Int|.mk x _ _ _ _ _=>x
def Z9.bA:Z9->Int|.mk _ x _ _ _ _=>x
def Z9.bp:Z9->Bs|.mk _ _ x _ _ _=>x
def Z9.aB:Z9->(Sl Z9)|.mk _ _ _ nl l _=>⟨nl,l⟩
def Z9.aR:Z9->(Sl Bs)|.mk _ _ _ _ _ x=>x
noncomputable def Z9.Iy:Z9->D:=@Z9.rec (fun _=>D) (fun _=>List (List D)) (fun _ _ _ nl _ _ b=>.slice 5 none nl b) [] (fun v _ b f=>((bL .i64) v.ai++(bL .i64) v.bA++aG v.bp++[b]++(fun s=>[Sl.d 1 aG none s]) v.aR)::f)
noncomputable def Z9.c (v:Z9):List D:=(bL .i64) v.ai++(bL .i64) v.bA++aG v.bp++[v.Iy]++(fun s=>[Sl.d 1 aG none s]) v.aR
theorem Z9.D6 (v:Z9):v.Iy=Sl.d 5 Z9.c none v.aB:=by
 cases v with
 | mk f g j nl l k =>
  show D.slice 5 none nl _=D.slice 5 none nl (l.map Z9.c)
  congr 1
  induction l with
  | nil=>rfl
  | cons a r b=>exact congrArg (Z9.c a::·) b
theorem Z9.ej (v:Z9):some (A.d v.Iy)=some (A.d (Sl.d 5 Z9.c none v.aB)):=congrArg (fun x=>some (A.d x)) (Z9.D6 v)
noncomputable def Z9.cu (v:Z9):List D:=(bL .i64) v.ai++(bL .i64) v.bA++aG v.bp++[Sl.d 5 Z9.c none v.aB]++(fun s=>[Sl.d 1 aG none s]) v.aR
theorem Z9.mC (v:Z9):v.c=v.cu:=by unfold Z9.c Z9.cu; rw [Z9.D6]
def Z9.zero:Z9:=.mk (0:Int) (0:Int) ([]:Bs) true [] (Sl.nil:Sl Bs)
structure bT where
 aa:Bs
 gr:Z9
noncomputable def bT.c (x:bT):List D:=aG x.aa++Z9.c x.gr
def bT.zero:bT:=⟨([]:Bs),Z9.zero⟩
structure aA where
 aa:Bs
 ay:(Sl bT)
noncomputable def aA.c (x:aA):List D:=[.str x.aa,Sl.d 6 bT.c none x.ay]
def aA.zero:aA:=⟨([]:Bs),(Sl.nil:Sl bT)⟩
structure aL where
 aa:Bs
 aH:(Sl Int)
noncomputable def aL.c (x:aL):List D:=[.str x.aa,Sl.d 1 (bL .i64) none x.aH]
def aL.zero:aL:=⟨([]:Bs),(Sl.nil:Sl Int)⟩
structure Z7 where
 aa:Bs
 av:aL
 ck:Bool
 cR:Z9
 bf:(Sl aA)
noncomputable def Z7.c (x:Z7):List D:=aG x.aa++aL.c x.av++v8 x.ck++Z9.c x.cR++(fun s=>[Sl.d 2 aA.c none s]) x.bf
def Z7.zero:Z7:=⟨([]:Bs),aL.zero,false,Z9.zero,(Sl.nil:Sl aA)⟩
structure Z6 where
 aa:Bs
 ay:(Sl Z7)
 av:aL
 bf:(Sl aA)
noncomputable def Z6.c (x:Z6):List D:=aG x.aa++(fun s=>[Sl.d 10 Z7.c none s]) x.ay++aL.c x.av++(fun s=>[Sl.d 2 aA.c none s]) x.bf
def Z6.zero:Z6:=⟨([]:Bs),(Sl.nil:Sl Z7),aL.zero,(Sl.nil:Sl aA)⟩
structure Z8 where
 aa:Bs
 bf:(Sl aA)
noncomputable def Z8.c (x:Z8):List D:=[.str x.aa,Sl.d 2 aA.c none x.bf]
def Z8.zero:Z8:=⟨([]:Bs),(Sl.nil:Sl aA)⟩
structure ah where
 ai:Int
 aa:Bs
 aM:(Sl Bs)
 bf:(Sl aA)
 aq:(Sl Z6)
 ax:(Sl Z8)
 aF:(Sl Z7)
noncomputable def ah.c (x:ah):List D:=[.int .i64 x.ai,.str x.aa,Sl.d 1 aG none x.aM,Sl.d 2 aA.c none x.bf,Sl.d 5 Z6.c none x.aq,Sl.d 2 Z8.c none x.ax,Sl.d 10 Z7.c none x.aF]
def ah.zero:ah:=⟨(0:Int),([]:Bs),(Sl.nil:Sl Bs),(Sl.nil:Sl aA),(Sl.nil:Sl Z6),(Sl.nil:Sl Z8),(Sl.nil:Sl Z7)⟩
structure ak where
 aj:(Sl ah)
noncomputable def ak.c (x:ak):List D:=[Sl.d 7 ah.c none x.aj]
def ak.zero:ak:=⟨(Sl.nil:Sl ah)⟩
structure Z5 where
 Qv:Int
 Qw:Bs
def Z5.c (x:Z5):List D:=[.int .i64 x.Qv,.str x.Qw]
structure Z2 where
 yV:(Sl Bs)
 Iz:(Sl Bs)
noncomputable def Z2.c (x:Z2):List D:=[Sl.d 1 aG none x.yV,Sl.d 1 aG none x.Iz]
structure Z4 where
 Fd:ak
 bK:(Sl Z5)
noncomputable def Z4.cg (t1:Option Nat) (x:Z4):List D:=ak.c x.Fd++[Sl.d 2 Z5.c t1 x.bK]
structure Z0 where
 Fd:ak
 ep:(Sl Z5)
noncomputable def Z0.cg (t1:Option Nat) (x:Z0):List D:=ak.c x.Fd++[Sl.d 2 Z5.c t1 x.ep]
structure Z1 where
 Fd:ak
 eY:Z9
 qA:Bool
 wv:Int
noncomputable def Z1.c (x:Z1):List D:=ak.c x.Fd++Z9.c x.eY++v8 x.qA++(bL .i64) x.wv
structure Z3 where
 Fd:ak
 eY:Z9
 fK:Bool
 kL:Int
 dh:Int
noncomputable def Z3.c (x:Z3):List D:=ak.c x.Fd++Z9.c x.eY++v8 x.fK++(bL .i64) x.kL++(bL .i64) x.dh
end Go.Proofs
namespace Go.Proofs
open Go Go.Ab Go.RowKit
section
variable {H:Type}{B:DataW H->Nat}(hB:yT B)
noncomputable def Z9.sz:Z9->Nat:=@Z9.rec (fun _=>Nat) (fun _=>Nat) (fun f g j nl l k b=>(fun _=>1) f+((fun _=>1) g+(Bs.sz j+((1+b)+((Sl.sz Bs.sz) k+(0)))))) 0 (fun _ _ b m=>b+m)
noncomputable def Z9.IA:List Z9->Nat:=@Z9.rec_1 (fun _=>Nat) (fun _=>Nat) (fun f g j nl l k b=>(fun _=>1) f+((fun _=>1) g+(Bs.sz j+((1+b)+((Sl.sz Bs.sz) k+(0)))))) 0 (fun _ _ b m=>b+m)
theorem Z9.Qx (l:List Z9):Z9.IA l=(l.map Z9.sz).sum:=by
 induction l with
 | nil=>rfl
 | cons a r b=>exact congrArg (Z9.sz a+·) b
theorem Z9.IB (x:Z9):x.sz=(fun _=>1) x.ai+((fun _=>1) x.bA+(Bs.sz x.bp+((Sl.sz Z9.sz) x.aB+((Sl.sz Bs.sz) x.aR+(0))))):=by
 cases x with
 | mk b f g nl l j =>
  show (fun _=>1) b+((fun _=>1) f+(Bs.sz g+((1+Z9.IA l)+((Sl.sz Bs.sz) j+(0)))))=_;rw [Z9.Qx]; rfl
def Z9.wf:Z9->Prop:=@Z9.rec (fun _=>Prop) (fun _=>Prop) (fun f g j nl l k b=>i64 f/\(i64 g/\((fun _=>True) j/\(((nl=true->l=[])/\l.length<=cA/\b)/\((Sl.wf (fun _=>True)) k/\(True)))))) True (fun _ _ b m=>b/\m)
def Z9.D7:List Z9->Prop:=@Z9.rec_1 (fun _=>Prop) (fun _=>Prop) (fun f g j nl l k b=>i64 f/\(i64 g/\((fun _=>True) j/\(((nl=true->l=[])/\l.length<=cA/\b)/\((Sl.wf (fun _=>True)) k/\(True)))))) True (fun _ _ b m=>b/\m)
theorem Z9.Qy (l:List Z9):Z9.D7 l↔∀x∈l,Z9.wf x:=by
 induction l with
 | nil=>exact⟨fun _ _ h=>(by cases h),fun _=>trivial⟩
 | cons a r b =>
  show (Z9.wf a/\Z9.D7 r)↔_;rw [b]; simp
theorem Z9.sF (x:Z9):x.wf↔i64 x.ai/\(i64 x.bA/\((fun _=>True) x.bp/\((Sl.wf Z9.wf) x.aB/\((Sl.wf (fun _=>True)) x.aR/\(True))))):=by
 cases x with
 | mk b f g nl l j =>
  show (i64 b/\(i64 f/\((fun _=>True) g/\(((nl=true->l=[])/\l.length<=cA/\Z9.D7 l)/\((Sl.wf (fun _=>True)) j/\(True))))))↔_;rw [Z9.Qy]; exact Iff.rfl
include hB in
theorem IC:∀N,dD Tryz.prog B N 72 Z9.c Z9.sz Z9.wf:=by
 have key:∀N M,M<=N->dD Tryz.prog B M 72 Z9.c Z9.sz Z9.wf:=by
  intro N;induction N with
  | zero=>intro M f; rw [Nat.le_zero.1 f]; exact .zero
  | succ N g =>
   intro M f;cases M with
   | zero=>exact .zero
   | succ b =>
    have hit:dD Tryz.prog B b 70 (fun s:Sl Z9=>[Sl.d 5 Z9.c none s]) (Sl.sz Z9.sz) (Sl.wf Z9.wf):=by
     cases b with
     | zero=>exact .zero
     | succ M=>exact dV.Iu hB (Tryz.bM 70 _ rfl) rfl (Tryz.bM 72 _ rfl) rfl (by decide) (fun _=>rfl) (g M (by omega))
    refine dD.struct hB (Tryz.bM 72 _ rfl) rfl (dz.cons (n:=5) (o:=0) (o':=1) (Tryz.bM 3 _ rfl) rfl ((dV.int hB (Tryz.bM 3 _ rfl) rfl) b) (dz.cons (n:=5) (o:=1) (o':=2) (Tryz.bM 3 _ rfl) rfl ((dV.int hB (Tryz.bM 3 _ rfl) rfl) b) (dz.cons (n:=5) (o:=2) (o':=3) (Tryz.bM 9 _ rfl) rfl ((dV.str hB (Tryz.bM 9 _ rfl) rfl) b) (dz.cons (n:=5) (o:=3) (o':=4) (Tryz.bM 70 _ rfl) rfl hit (dz.cons (n:=5) (o:=4) (o':=5) (Tryz.bM 25 _ rfl) rfl ((dV.slice hB (Tryz.bM 25 _ rfl) rfl (Tryz.bM 9 _ rfl) rfl (by decide) (fun _=>rfl) (dV.str hB (Tryz.bM 9 _ rfl) rfl)) b) (dz.nil (n:=5))))))) (fun a=>Z9.mk a.1 a.2.1 a.2.2.1 a.2.2.2.1.nl a.2.2.2.1.l a.2.2.2.2.1) (fun a=>?_) (fun a=>by rw [Z9.IB]; exact Nat.le_refl _) (fun a h=>by rw [Z9.sF]; exact h)
    unfold Z9.c;rw [Z9.D6];rfl
 exact fun N=>key N N (Nat.le_refl _)
noncomputable def bT.sz (x:bT):Nat:=Bs.sz x.aa+(Z9.sz x.gr+(0))
def bT.wf (x:bT):Prop:=(fun _=>True) x.aa/\(Z9.wf x.gr/\(True))
include hB in
theorem Qz:∀N,dD Tryz.prog B N 74 bT.c bT.sz bT.wf:=sC.struct hB (Tryz.bM 74 _ rfl) rfl (fun b=>(dz.cons (n:=6) (o:=0) (o':=1) (Tryz.bM 9 _ rfl) rfl ((dV.str hB (Tryz.bM 9 _ rfl) rfl) b) (dz.cons (n:=6) (o:=1) (o':=6) (Tryz.bM 72 _ rfl) rfl ((IC hB) b) (dz.nil (n:=6))))) (fun a=>(⟨a.1,a.2.1⟩:bT)) (fun _=>rfl) (fun _=>Nat.le_refl _) (fun _ h=>h)
noncomputable def aA.sz (x:aA):Nat:=Bs.sz x.aa+((Sl.sz bT.sz) x.ay+(0))
def aA.wf (x:aA):Prop:=(fun _=>True) x.aa/\((Sl.wf bT.wf) x.ay/\(True))
include hB in
theorem Bf:∀N,dD Tryz.prog B N 77 aA.c aA.sz aA.wf:=sC.struct hB (Tryz.bM 77 _ rfl) rfl (fun b=>(dz.cons (n:=2) (o:=0) (o':=1) (Tryz.bM 9 _ rfl) rfl ((dV.str hB (Tryz.bM 9 _ rfl) rfl) b) (dz.cons (n:=2) (o:=1) (o':=2) (Tryz.bM 75 _ rfl) rfl ((dV.slice hB (Tryz.bM 75 _ rfl) rfl (Tryz.bM 74 _ rfl) rfl (by decide) (fun _=>rfl) (Qz hB)) b) (dz.nil (n:=2))))) (fun a=>(⟨a.1,a.2.1⟩:aA)) (fun _=>rfl) (fun _=>Nat.le_refl _) (fun _ h=>h)
noncomputable def aL.sz (x:aL):Nat:=Bs.sz x.aa+((Sl.sz (fun _=>1)) x.aH+(0))
def aL.wf (x:aL):Prop:=(fun _=>True) x.aa/\((Sl.wf i64) x.aH/\(True))
include hB in
theorem ID:∀N,dD Tryz.prog B N 46 aL.c aL.sz aL.wf:=sC.struct hB (Tryz.bM 46 _ rfl) rfl (fun b=>(dz.cons (n:=2) (o:=0) (o':=1) (Tryz.bM 9 _ rfl) rfl ((dV.str hB (Tryz.bM 9 _ rfl) rfl) b) (dz.cons (n:=2) (o:=1) (o':=2) (Tryz.bM 44 _ rfl) rfl ((dV.slice hB (Tryz.bM 44 _ rfl) rfl (Tryz.bM 3 _ rfl) rfl (by decide) (fun _=>rfl) (dV.int hB (Tryz.bM 3 _ rfl) rfl)) b) (dz.nil (n:=2))))) (fun a=>(⟨a.1,a.2.1⟩:aL)) (fun _=>rfl) (fun _=>Nat.le_refl _) (fun _ h=>h)
noncomputable def Z7.sz (x:Z7):Nat:=Bs.sz x.aa+(aL.sz x.av+((fun _=>1) x.ck+(Z9.sz x.cR+((Sl.sz aA.sz) x.bf+(0)))))
def Z7.wf (x:Z7):Prop:=(fun _=>True) x.aa/\(aL.wf x.av/\((fun _=>True) x.ck/\(Z9.wf x.cR/\((Sl.wf aA.wf) x.bf/\(True)))))
include hB in
theorem IE:∀N,dD Tryz.prog B N 81 Z7.c Z7.sz Z7.wf:=sC.struct hB (Tryz.bM 81 _ rfl) rfl (fun b=>(dz.cons (n:=10) (o:=0) (o':=1) (Tryz.bM 9 _ rfl) rfl ((dV.str hB (Tryz.bM 9 _ rfl) rfl) b) (dz.cons (n:=10) (o:=1) (o':=3) (Tryz.bM 46 _ rfl) rfl ((ID hB) b) (dz.cons (n:=10) (o:=3) (o':=4) (Tryz.bM 4 _ rfl) rfl ((dV.bool hB (Tryz.bM 4 _ rfl) rfl) b) (dz.cons (n:=10) (o:=4) (o':=9) (Tryz.bM 72 _ rfl) rfl ((IC hB) b) (dz.cons (n:=10) (o:=9) (o':=10) (Tryz.bM 35 _ rfl) rfl ((dV.slice hB (Tryz.bM 35 _ rfl) rfl (Tryz.bM 77 _ rfl) rfl (by decide) (fun _=>rfl) (Bf hB)) b) (dz.nil (n:=10)))))))) (fun a=>(⟨a.1,a.2.1,a.2.2.1,a.2.2.2.1,a.2.2.2.2.1⟩:Z7)) (fun _=>rfl) (fun _=>Nat.le_refl _) (fun _ h=>h)
noncomputable def Z6.sz (x:Z6):Nat:=Bs.sz x.aa+((Sl.sz Z7.sz) x.ay+(aL.sz x.av+((Sl.sz aA.sz) x.bf+(0))))
def Z6.wf (x:Z6):Prop:=(fun _=>True) x.aa/\((Sl.wf Z7.wf) x.ay/\(aL.wf x.av/\((Sl.wf aA.wf) x.bf/\(True))))
include hB in
theorem QA:∀N,dD Tryz.prog B N 49 Z6.c Z6.sz Z6.wf:=sC.struct hB (Tryz.bM 49 _ rfl) rfl (fun b=>(dz.cons (n:=5) (o:=0) (o':=1) (Tryz.bM 9 _ rfl) rfl ((dV.str hB (Tryz.bM 9 _ rfl) rfl) b) (dz.cons (n:=5) (o:=1) (o':=2) (Tryz.bM 38 _ rfl) rfl ((dV.slice hB (Tryz.bM 38 _ rfl) rfl (Tryz.bM 81 _ rfl) rfl (by decide) (fun _=>rfl) (IE hB)) b) (dz.cons (n:=5) (o:=2) (o':=4) (Tryz.bM 46 _ rfl) rfl ((ID hB) b) (dz.cons (n:=5) (o:=4) (o':=5) (Tryz.bM 35 _ rfl) rfl ((dV.slice hB (Tryz.bM 35 _ rfl) rfl (Tryz.bM 77 _ rfl) rfl (by decide) (fun _=>rfl) (Bf hB)) b) (dz.nil (n:=5))))))) (fun a=>(⟨a.1,a.2.1,a.2.2.1,a.2.2.2.1⟩:Z6)) (fun _=>rfl) (fun _=>Nat.le_refl _) (fun _ h=>h)
noncomputable def Z8.sz (x:Z8):Nat:=Bs.sz x.aa+((Sl.sz aA.sz) x.bf+(0))
def Z8.wf (x:Z8):Prop:=(fun _=>True) x.aa/\((Sl.wf aA.wf) x.bf/\(True))
include hB in
theorem QB:∀N,dD Tryz.prog B N 68 Z8.c Z8.sz Z8.wf:=sC.struct hB (Tryz.bM 68 _ rfl) rfl (fun b=>(dz.cons (n:=2) (o:=0) (o':=1) (Tryz.bM 9 _ rfl) rfl ((dV.str hB (Tryz.bM 9 _ rfl) rfl) b) (dz.cons (n:=2) (o:=1) (o':=2) (Tryz.bM 35 _ rfl) rfl ((dV.slice hB (Tryz.bM 35 _ rfl) rfl (Tryz.bM 77 _ rfl) rfl (by decide) (fun _=>rfl) (Bf hB)) b) (dz.nil (n:=2))))) (fun a=>(⟨a.1,a.2.1⟩:Z8)) (fun _=>rfl) (fun _=>Nat.le_refl _) (fun _ h=>h)
noncomputable def ah.sz (x:ah):Nat:=(fun _=>1) x.ai+(Bs.sz x.aa+((Sl.sz Bs.sz) x.aM+((Sl.sz aA.sz) x.bf+((Sl.sz Z6.sz) x.aq+((Sl.sz Z8.sz) x.ax+((Sl.sz Z7.sz) x.aF+(0)))))))
def ah.wf (x:ah):Prop:=i64 x.ai/\((fun _=>True) x.aa/\((Sl.wf (fun _=>True)) x.aM/\((Sl.wf aA.wf) x.bf/\((Sl.wf Z6.wf) x.aq/\((Sl.wf Z8.wf) x.ax/\((Sl.wf Z7.wf) x.aF/\(True)))))))
include hB in
theorem QC:∀N,dD Tryz.prog B N 40 ah.c ah.sz ah.wf:=sC.struct hB (Tryz.bM 40 _ rfl) rfl (fun b=>(dz.cons (n:=7) (o:=0) (o':=1) (Tryz.bM 3 _ rfl) rfl ((dV.int hB (Tryz.bM 3 _ rfl) rfl) b) (dz.cons (n:=7) (o:=1) (o':=2) (Tryz.bM 9 _ rfl) rfl ((dV.str hB (Tryz.bM 9 _ rfl) rfl) b) (dz.cons (n:=7) (o:=2) (o':=3) (Tryz.bM 25 _ rfl) rfl ((dV.slice hB (Tryz.bM 25 _ rfl) rfl (Tryz.bM 9 _ rfl) rfl (by decide) (fun _=>rfl) (dV.str hB (Tryz.bM 9 _ rfl) rfl)) b) (dz.cons (n:=7) (o:=3) (o':=4) (Tryz.bM 35 _ rfl) rfl ((dV.slice hB (Tryz.bM 35 _ rfl) rfl (Tryz.bM 77 _ rfl) rfl (by decide) (fun _=>rfl) (Bf hB)) b) (dz.cons (n:=7) (o:=4) (o':=5) (Tryz.bM 36 _ rfl) rfl ((dV.slice hB (Tryz.bM 36 _ rfl) rfl (Tryz.bM 49 _ rfl) rfl (by decide) (fun _=>rfl) (QA hB)) b) (dz.cons (n:=7) (o:=5) (o':=6) (Tryz.bM 37 _ rfl) rfl ((dV.slice hB (Tryz.bM 37 _ rfl) rfl (Tryz.bM 68 _ rfl) rfl (by decide) (fun _=>rfl) (QB hB)) b) (dz.cons (n:=7) (o:=6) (o':=7) (Tryz.bM 38 _ rfl) rfl ((dV.slice hB (Tryz.bM 38 _ rfl) rfl (Tryz.bM 81 _ rfl) rfl (by decide) (fun _=>rfl) (IE hB)) b) (dz.nil (n:=7)))))))))) (fun a=>(⟨a.1,a.2.1,a.2.2.1,a.2.2.2.1,a.2.2.2.2.1,a.2.2.2.2.2.1,a.2.2.2.2.2.2.1⟩:ah)) (fun _=>rfl) (fun _=>Nat.le_refl _) (fun _ h=>h)
noncomputable def ak.sz (x:ak):Nat:=(Sl.sz ah.sz) x.aj+(0)
def ak.wf (x:ak):Prop:=(Sl.wf ah.wf) x.aj/\(True)
include hB in
theorem QD:∀N,dD Tryz.prog B N 24 ak.c ak.sz ak.wf:=sC.struct hB (Tryz.bM 24 _ rfl) rfl (fun b=>(dz.cons (n:=1) (o:=0) (o':=1) (Tryz.bM 22 _ rfl) rfl ((dV.slice hB (Tryz.bM 22 _ rfl) rfl (Tryz.bM 40 _ rfl) rfl (by decide) (fun _=>rfl) (QC hB)) b) (dz.nil (n:=1)))) (fun a=>(⟨a.1⟩:ak)) (fun _=>rfl) (fun _=>Nat.le_refl _) (fun _ h=>h)
end
theorem Z9.bt (x:Z9):x.sz=0+1+1+Bs.sz x.bp+(Sl.sz Z9.sz) x.aB+(Sl.sz Bs.sz) x.aR:=by
 rw [Z9.IB]; try dsimp only
 omega
theorem Z9.pos (x:Z9):1<=x.sz:=by
 rw [Z9.bt]; have:=Bs.mA x.bp; omega
theorem Z9.QE {x:Z9}(h:x.wf):i64 x.ai:=((Z9.sF x).1 h).1
theorem Z9.QG {x:Z9}(h:x.wf):i64 x.bA:=((Z9.sF x).1 h).2.1
theorem Z9.D8 {x:Z9}(h:x.wf):(Sl.wf Z9.wf) x.aB:=((Z9.sF x).1 h).2.2.2.1
theorem Z9.IF {x:Z9}(h:x.wf):(Sl.wf (fun _=>True)) x.aR:=((Z9.sF x).1 h).2.2.2.2.1
theorem bT.bt (x:bT):x.sz=0+Bs.sz x.aa+Z9.sz x.gr:=by
 unfold bT.sz; try dsimp only
 omega
theorem bT.pos (x:bT):1<=x.sz:=by
 rw [bT.bt]; have:=Bs.mA x.aa; omega
theorem bT.D9 {x:bT}(h:x.wf):Z9.wf x.gr:=h.2.1
theorem aA.bt (x:aA):x.sz=0+Bs.sz x.aa+(Sl.sz bT.sz) x.ay:=by
 unfold aA.sz; try dsimp only
 omega
theorem aA.pos (x:aA):1<=x.sz:=by
 rw [aA.bt]; have:=Bs.mA x.aa; omega
theorem aA.kO {x:aA}(h:x.wf):(Sl.wf bT.wf) x.ay:=h.2.1
theorem aL.bt (x:aL):x.sz=0+Bs.sz x.aa+(Sl.sz (fun _=>1)) x.aH:=by
 unfold aL.sz; try dsimp only
 omega
theorem aL.IG {x:aL}(h:x.wf):(Sl.wf i64) x.aH:=h.2.1
theorem Z7.bt (x:Z7):x.sz=0+Bs.sz x.aa+aL.sz x.av+1+Z9.sz x.cR+(Sl.sz aA.sz) x.bf:=by
 unfold Z7.sz; try dsimp only
 omega
theorem Z7.pos (x:Z7):1<=x.sz:=by
 rw [Z7.bt]; have:=Bs.mA x.aa; omega
theorem Z7.ww {x:Z7}(h:x.wf):aL.wf x.av:=h.2.1
theorem Z7.Ea {x:Z7}(h:x.wf):Z9.wf x.cR:=h.2.2.2.1
theorem Z7.jo {x:Z7}(h:x.wf):(Sl.wf aA.wf) x.bf:=h.2.2.2.2.1
theorem Z6.bt (x:Z6):x.sz=0+Bs.sz x.aa+(Sl.sz Z7.sz) x.ay+aL.sz x.av+(Sl.sz aA.sz) x.bf:=by
 unfold Z6.sz; try dsimp only
 omega
theorem Z6.pos (x:Z6):1<=x.sz:=by
 rw [Z6.bt]; have:=Bs.mA x.aa; omega
theorem Z6.kO {x:Z6}(h:x.wf):(Sl.wf Z7.wf) x.ay:=h.2.1
theorem Z6.ww {x:Z6}(h:x.wf):aL.wf x.av:=h.2.2.1
theorem Z6.jo {x:Z6}(h:x.wf):(Sl.wf aA.wf) x.bf:=h.2.2.2.1
theorem Z8.bt (x:Z8):x.sz=0+Bs.sz x.aa+(Sl.sz aA.sz) x.bf:=by
 unfold Z8.sz; try dsimp only
 omega
theorem Z8.pos (x:Z8):1<=x.sz:=by
 rw [Z8.bt]; have:=Bs.mA x.aa; omega
theorem Z8.jo {x:Z8}(h:x.wf):(Sl.wf aA.wf) x.bf:=h.2.1
theorem ah.bt (x:ah):x.sz=0+1+Bs.sz x.aa+(Sl.sz Bs.sz) x.aM+(Sl.sz aA.sz) x.bf+(Sl.sz Z6.sz) x.aq+(Sl.sz Z8.sz) x.ax+(Sl.sz Z7.sz) x.aF:=by
 unfold ah.sz; try dsimp only
 omega
theorem ah.pos (x:ah):1<=x.sz:=by
 rw [ah.bt]; have:=Bs.mA x.aa; omega
theorem ah.yW {x:ah}(h:x.wf):(Sl.wf (fun _=>True)) x.aM:=h.2.2.1
theorem ah.jo {x:ah}(h:x.wf):(Sl.wf aA.wf) x.bf:=h.2.2.2.1
theorem ah.qB {x:ah}(h:x.wf):(Sl.wf Z6.wf) x.aq:=h.2.2.2.2.1
theorem ah.wx {x:ah}(h:x.wf):(Sl.wf Z8.wf) x.ax:=h.2.2.2.2.2.1
theorem ah.uR {x:ah}(h:x.wf):(Sl.wf Z7.wf) x.aF:=h.2.2.2.2.2.2.1
theorem ak.bt (x:ak):x.sz=0+(Sl.sz ah.sz) x.aj:=by
 unfold ak.sz; try dsimp only
 omega
theorem ak.Eb {x:ak}(h:x.wf):(Sl.wf ah.wf) x.aj:=h.1
end Go.Proofs
namespace Go.Proofs
open Go Go.Ab
open aK an ag dJ fN
attribute [local irreducible] aK aN ag an
abbrev At [b:bS] (n:Nat) (a:List A) (H:af) (Q:V->af->Prop):Prop:=AC Tryz.prog n a H Q
variable {au:bS}
def pu (f:Bs):List ah->Unit ⊕ ((ah×Bool))
 | []=>Sum.inl ()
 | b::g=>on (b) fun j=>bif ((j.aa==f)) then(on (b) fun k=>Sum.inr (k,true)) else(pu f (g) )
def eR (a0:ak) (g:Bs):(ah×Bool):=on (pu g a0.aj.l ) fun b=>match b with|Sum.inl _=>(on (()) fun _=>((ah.mk 0 [] Sl.nil Sl.nil Sl.nil Sl.nil Sl.nil),false))|Sum.inr f=>(f)
def Bg (a0:ak) (b:Bs):Option (ah×Bool):=some (eR a0 b)
theorem QH (a0:ak) (a1:Bs):Bg a0 a1=some (eR a0 a1):=rfl
theorem mD {a0 f r}(b:Bg a0 f=some r) (H:af) :At 12 [.agg (ak.c a0),.d (.str f)] H (RT (.cL [.agg (ah.c r.1),.d (.bool r.2)]) H):=by
 unfold Bg eR at b;refine AC.oW 28 [.cell 4 40,.tmp 5] Tryz.call12 Tryz.func12 ?_;refine Y5 ?_;refine dS (tl [4]) (fun(z:ah)=>[]) (fun z=>[ah.c z]) (fun z=>H) (fun z=>some (((ah.mk 0 [] Sl.nil Sl.nil Sl.nil Sl.nil Sl.nil),false))=some r) ?_ ?_
 ·intro E q;refine Y4 ?_;obtain⟨k,m,b⟩:=dU b;refine gz (tl [1,2,4]) (fun(z:Nat×ah)=>[(6,vi z.1)]) (fun z=>[ah.c z.2]) (fun z=>H) (fun z=>a0.aj.l.length-z.1) (fun z=>k (pu f (a0.aj.l.drop z.1) )=some r) (0,ah.zero) b wA ?_;rintro ⟨g,p⟩ b F s;refine ar fun G t=>Y4 ?_;refine aU ah.c a0.aj fun I=>Y2 ?_
  refine ag.bJ (fun l=>k (pu f l )=some r) b rfl (fun J j u b=>?_) (fun u b=>?_)
  ·rw [pu] at b;refine sk t (ar fun K v=>Y5 ?_);obtain⟨L,w,b⟩:=vP j b;refine S (ix ah.c g w) (Y5 ?_);refine cP b (fun y b=>?_) (fun y b=>?_)
   ·refine Y4 ?_;obtain⟨M,B,b⟩:=vP j b;refine S (ix ah.c g B) (Y4 ?_);exact rs (ku m b:)
   refine sk v (Y5 ?_);exact s _ ((g+1),p) wA b (dl j)
  rw [pu] at b;have b:=ku m b;refine ag.exit ?_;obtain⟨N,C,b⟩:=dU b;exact q _ p wA (ku C b:)
 rintro O b;refine Y5 ?_;exact rt b
def jq (a0:Bs):Bool:=(((((a0==([73,110,116]:Bs)))||((a0==([83,116,114,105,110,103]:Bs))))||((a0==([66,111,111,108,101,97,110]:Bs))))||((a0==([73,68]:Bs))))
def Bh (a0:Bs):Option Bool:=some (jq a0)
theorem QI (a0:Bs):Bh a0=some (jq a0):=rfl
theorem wy {a0 r}(b:Bh a0=some r) (H:af) :At 95 [.d (.str a0)] H (RT (.a (.d (.bool r))) H):=by
 unfold Bh jq at b;refine AC.oW 17 [.tmp 2] Tryz.call95 Tryz.func95 ?_;refine Y8 ?_;refine Gk 6 ?_;refine Y3 ?_;refine Gk 10 ?_;refine Y3 ?_;refine Gk 14 ?_;refine Y3 ?_;exact rt b
def qC (a0:Int):Bool:=((((decide ((65:Int)<=a0))&&(decide (a0<=(90:Int))))||((decide ((97:Int)<=a0))&&(decide (a0<=(122:Int)))))||(decide (a0=(95:Int))))
theorem QJ {a0 r}(b:some (qC a0)=some r) (H:af) :At 108 [.d (.int .u8 a0)] H (RT (.a (.d (.bool r))) H):=by
 unfold qC at b;refine AC.oW 21 [.tmp 2] Tryz.call108 Tryz.func108 ?_;refine Y8 ?_;refine Gk 6 ?_;refine Y3 ?_;refine Gk 10 ?_;refine Gk 11 ?_;refine Y1 ?_;refine Gk 13 ?_;refine bI 12 rfl (fun hC=>kI rfl rfl rfl) ?_;refine Y3 ?_;refine Gk 18 ?_;refine Y3 ?_;exact rt b
def wz (a0:Int):Bool:=((decide ((48:Int)<=a0))&&(decide (a0<=(57:Int))))
theorem QK {a0 r}(b:some (wz a0)=some r) (H:af) :At 109 [.d (.int .u8 a0)] H (RT (.a (.d (.bool r))) H):=by
 unfold wz at b;refine AC.oW 9 [.tmp 2] Tryz.call109 Tryz.func109 ?_;refine Y8 ?_;refine Gk 6 ?_;refine Y3 ?_;exact rt b
def qD :List UInt8->Nat->Unit ⊕ Bool
 | [],b=>Sum.inl ()
 | g::j,b=>on (g) fun k=>on (qC ((k.toNat:Nat):Int)) fun f=>on (bif ((!f)&&!(decide (((b:Nat):Int)=(0:Int)))) then g else(0:UInt8)) fun l=>on (bif ((!f)&&!(decide (((b:Nat):Int)=(0:Int)))) then wz ((l.toNat:Nat):Int) else false) fun m=>bif ((!f)&&((decide (((b:Nat):Int)=(0:Int)))||(!m))) then(Sum.inr false) else(qD  (j) (b+1) )
def eW (a0:Bs):Bool:=bif ((decide (((a0.length:Nat):Int)<(1:Int)))||(decide ((64:Int)<((a0.length:Nat):Int)))) then(false) else(on (qD  a0 0 ) fun b=>match b with|Sum.inl _=>(on (()) fun _=>true)|Sum.inr f=>(f))
def Bi (a0:Bs):Option Bool:=some (eW a0)
theorem mF {a0 r}(b:Bi a0=some r) (H:af) :At 63 [.d (.str a0)] H (RT (.a (.d (.bool r))) H):=by
 unfold Bi eW at b;refine AC.oW 34 [.tmp 2] Tryz.call63 Tryz.func63 ?_;refine Y3 ?_;refine ar fun G m=>Y2 ?_;refine uI (TK rfl) rfl rfl rfl rfl fun I=>?_;refine Y3 ?_;refine bI 8 rfl (fun hC=>AO (TK rfl) rfl rfl rfl) ?_;refine Gk 9 ?_;refine Y2 ?_;refine cP b (fun p b=>?_) (fun p b=>?_)
 ·refine Y3 ?_;exact rt b
 refine sk m (aO kN (fun(z:Unit)=>[]) (fun z=>H) (fun z=>some (true)=some r) ?_ ?_)
 ·intro J q;refine Y4 ?_;obtain⟨j,k,b⟩:=dU b;refine bz (tl [0]) (fun(z:Nat)=>[(3,vi z)]) (fun z=>H) (fun z=>a0.length-z) (fun z=>j (qD  (a0.drop z) z )=some r) 0 b wA ?_;rintro f b K s;refine ar fun L t=>Y3 ?_;refine uI (TK rfl) rfl rfl rfl rfl fun M=>?_;refine Y2 ?_
  refine ag.bJ (fun l=>j (qD  l f )=some r) b rfl (fun N g u b=>?_) (fun u b=>?_)
  ·rw [qD] at b;refine sk t (ar fun O v=>Y4 ?_);obtain⟨P,w,b⟩:=vP g b;refine s0 (su (n:=f) (TK rfl) rfl rfl rfl w) rfl ?_;obtain⟨Q,y,b⟩:=ff b;refine Sc rfl rfl (QJ y) (Y3 ?_);refine Gk 24 ?_;refine Gk 25 ?_;refine Y2 ?_;obtain⟨R,B,b⟩:=iX (fun _=>g) b;refine fJ 27 28 rfl rfl (fun hC=>su (n:=f) (TK rfl) rfl rfl rfl (B hC)) ?_
   obtain⟨S,C,b⟩:=iX (fun _=>rfl) b;refine dP 29 rfl rfl rfl rfl rfl (fun hC=>QK (C hC)) ?_;refine Gk 30 ?_;refine bI 26 rfl (fun hC=>we rfl rfl rfl) ?_;refine Y2 ?_;refine cP b (fun E b=>?_) (fun E b=>?_)
   ·refine Y3 ?_;exact rs (ku k b:)
   refine sk v (Y5 ?_);exact s _ (f+1) wA b (dl g)
  rw [qD] at b;have b:=ku k b;refine ag.exit ?_;obtain⟨U,F,b⟩:=dU b;exact q _ () wA (ku F b:)
 rintro _ b;refine Y3 ?_;exact rt b
def yX (a0:Bs):Option Bool:=aZ ((decide ((2:Int)<=((a0.length:Nat):Int)))) (a0[0]?) (0:UInt8) fun b=>aZ (((decide ((2:Int)<=((a0.length:Nat):Int)))&&(decide (((b.toNat:Nat):Int)=(95:Int))))) (a0[1]?) (0:UInt8) fun x5=>some (((decide ((2:Int)<=((a0.length:Nat):Int)))&&(decide (((b.toNat:Nat):Int)=(95:Int))))&&(decide (((x5.toNat:Nat):Int)=(95:Int))))
theorem QL {a0 r}(b:yX a0=some r) (H:af) :At 172 [.d (.str a0)] H (RT (.a (.d (.bool r))) H):=by
 unfold yX at b;refine AC.oW 16 [.tmp 2] Tryz.call172 Tryz.func172 ?_;refine Y5 ?_;refine uI (TK rfl) rfl rfl rfl rfl fun j=>?_;refine Y3 ?_;obtain⟨k,f,b⟩:=eB b;refine bI 7 rfl (fun hC=>su (n:=0) (TK rfl) rfl rfl rfl (f hC)) ?_;refine Gk 8 ?_;refine Y3 ?_;obtain⟨x5,g,b⟩:=eB b;refine bI 12 rfl (fun hC=>su (n:=1) (TK rfl) rfl rfl rfl (g hC)) ?_;refine Gk 13 ?_;refine Y3 ?_
 exact rt b
def yY (a0:Bs):Option Bool:=on (eW a0) fun x3=>aZ (x3) (yX a0) false fun b=>some (x3&&(!b))
theorem II {a0 r}(b:yY a0=some r) (H:af) :At 137 [.d (.str a0)] H (RT (.a (.d (.bool r))) H):=by
 unfold yY at b;refine AC.oW 10 [.tmp 2] Tryz.call137 Tryz.func137 ?_;refine Y5 ?_;obtain⟨x3,f,b⟩:=dQ b;refine Sc rfl rfl (mF f) (Y2 ?_);obtain⟨j,g,b⟩:=eB b;refine dP 6 rfl rfl rfl rfl rfl (fun hC=>QL (g hC)) ?_;refine Gk 7 ?_;refine Y3 ?_;exact rt b
def nP (a0:Bs) (f:Bool) (p:Bool) (g:Bs):Option (Sl Z5):=aZ (!f) (yY a0) false fun j=>Option.bind (bif (f||(!j)) then((bh 24 (Sl.nil:Sl Z5) (⟨false,[(Z5.mk 6 g)]⟩:Sl Z5)).bind fun k=>some k) else(some (Sl.nil:Sl Z5))) fun b=>Option.bind (bif p then((bh 24 b (⟨false,[(Z5.mk 7 g)]⟩:Sl Z5)).bind fun l=>some l) else(some b)) fun m=>some m
def wB (a0:Bs) (b:Bool) (f:Bool) (g:Bs):Option (Sl Z5):=nP a0 b f g
theorem QM (a0:Bs) (a1:Bool) (a2:Bool) (a3:Bs):wB a0 a1 a2 a3=nP a0 a1 a2 a3:=rfl
theorem Ec {a0 s j k r}(b:wB a0 s j k=some r) (H:af) :At 96 [.d (.str a0),.d (.bool s),.d (.bool j),.d (.str k)] H (RT (.a (.d (Sl.d 2 Z5.c none r))) H):=by
 unfold wB nP at b;refine AC.oW 28 [.tmp 8] Tryz.call96 Tryz.func96 ?_;refine ag.tok 2 fun f G=>?_;refine Y1 ?_;refine s0 (dM (k':=2) rfl) rfl ?_;refine Y4 ?_;refine ag.fe 9 2 f rfl az ?_
 refine aO (tl [2,3]) (fun(z:(Sl Z5))=>[(9,.a (.d (Sl.d 2 Z5.c (some f) z)))]) (fun z=>(tS H f 2 z)) (fun z=>(Option.bind (bif j then((bh 24 z (⟨false,[(Z5.mk 7 k)]⟩:Sl Z5)).bind fun g=>some g) else(some z)) fun l=>some l)=some r) ?_ ?_
 ·intro I m;refine Y4 ?_;obtain⟨J,t,b⟩:=eB b;refine dP 12 rfl rfl rfl rfl rfl (fun hC=>II (t hC)) ?_;refine Gk 13 ?_;refine Y2 ?_;obtain⟨K,p,b⟩:=bZ b;refine cO b (fun u b=>?_) (fun u b=>?_)
  ·refine Y5 ?_;obtain⟨v,w,b⟩:=aJ b;refine SH (am Z5.c (TK rfl) rfl (TK rfl) (TK rfl) w) ?_;refine Y2 ?_;exact m _ v wA (ku p b:)
  refine ag.skip ?_;exact m _ (Sl.nil:Sl Z5) wA (ku p b:)
 rintro y b;obtain⟨B,C,b⟩:=bZ b;refine aO kN (fun(z:(Sl Z5))=>[(9,.a (.d (Sl.d 2 Z5.c (some f) z)))]) (fun z=>(tS H f 2 z)) (fun z=>B z=some r) ?_ ?_
 ·intro L q;refine Y3 ?_;refine cO b (fun E b=>?_) (fun E b=>?_)
  ·refine Y5 ?_;obtain⟨g,F,b⟩:=aJ b;refine SH (am Z5.c (TK rfl) rfl (TK rfl) (TK rfl) F) ?_;refine Y2 ?_;exact q _ g wA b
  refine ag.skip ?_;exact q _ y wA b
 rintro l b;have b:=ku C b;refine Y4 ?_;refine ag.eF 8 rfl ?_;refine ry ?_;obtain rfl:=oJ b;refine bU.cH H rfl ⟨rfl,rfl⟩ ?_;exact sy
theorem QN {a0:Bs}{t j:Bool}{k:Bs}{r:Sl Z5}(b:wB a0 t j k=some r) (H:af){f:Nat}(I:H f=some (.tok 2 0)):At 96 [.d (.str a0),.d (.bool t),.d (.bool j),.d (.str k)] H (RT (.a (.d (Sl.d 2 Z5.c (some f) r))) (H.set f (some (.tok 2 r.l.length)))):=by
 unfold wB nP at b;refine AC.oW 28 [.tmp 8] Tryz.call96 Tryz.func96 ?_;refine hz (H.set f (some (.tok 2 0))) (Y6 ?_);refine ag.fe 9 2 f rfl az ?_;refine aO (tl [2,3]) (fun(z:(Sl Z5))=>[(9,.a (.d (Sl.d 2 Z5.c (some f) z)))]) (fun z=>(tS H f 2 z)) (fun z=>(Option.bind (bif j then((bh 24 z (⟨false,[(Z5.mk 7 k)]⟩:Sl Z5)).bind fun g=>some g) else(some z)) fun m=>some m)=some r) ?_ ?_
 ·intro J p;refine Y4 ?_;obtain⟨K,u,b⟩:=eB b;refine dP 12 rfl rfl rfl rfl rfl (fun hC=>II (u hC)) ?_;refine Gk 13 ?_;refine Y2 ?_;obtain⟨L,q,b⟩:=bZ b;refine cO b (fun v b=>?_) (fun v b=>?_)
  ·refine Y5 ?_;obtain⟨w,y,b⟩:=aJ b;refine SH (am Z5.c (TK rfl) rfl (TK rfl) (TK rfl) y) ?_;refine Y2 ?_;exact p _ w wA (ku q b:)
  refine ag.skip ?_;exact p _ (Sl.nil:Sl Z5) wA (ku q b:)
 rintro B b;obtain⟨C,E,b⟩:=bZ b;refine aO kN (fun(z:(Sl Z5))=>[(9,.a (.d (Sl.d 2 Z5.c (some f) z)))]) (fun z=>(tS H f 2 z)) (fun z=>C z=some r) ?_ ?_
 ·intro M s;refine Y3 ?_;refine cO b (fun F b=>?_) (fun F b=>?_)
  ·refine Y5 ?_;obtain⟨g,G,b⟩:=aJ b;refine SH (am Z5.c (TK rfl) rfl (TK rfl) (TK rfl) G) ?_;refine Y2 ?_;exact s _ g wA b
  refine ag.skip ?_;exact s _ B wA b
 rintro m b;have b:=ku E b;refine Y4 ?_;exact rt b
def Bj (a0:ah):Bool:=on (bif (decide (a0.ai=(1:Int))) then((decide (a0.ai=(1:Int)))) else((decide (a0.ai=(2:Int))))) fun b=>bif b then((decide (((a0.aq.l.length:Nat):Int)=(0:Int)))) else(on (bif (decide (a0.ai=(3:Int))) then((decide (a0.ai=(3:Int)))) else((decide (a0.ai=(4:Int))))) fun f=>bif f then((decide (((a0.ax.l.length:Nat):Int)=(0:Int)))) else(bif (decide (a0.ai=(5:Int))) then((decide (((a0.aF.l.length:Nat):Int)=(0:Int)))) else(on (()) fun _=>false)))
def Bk (a0:ah):Option Bool:=some (Bj a0)
theorem QO (a0:ah):Bk a0=some (Bj a0):=rfl
theorem QR {a0 r}(b:Bk a0=some r) (H:af) :At 97 [.agg (ah.c a0)] H (RT (.a (.d (.bool r))) H):=by
 unfold Bk Bj at b;refine AC.oW 25 [.tmp 2] Tryz.call97 Tryz.func97 ?_;refine Y4 ?_;refine aO kN (fun(z:Unit)=>[]) (fun z=>H) (fun z=>some (false)=some r) ?_ ?_
 ·intro y j;refine Y5 ?_;obtain⟨k,l,b⟩:=dU b;refine aO (tl [1,4]) (fun(z:Bool)=>[(5,.a (.d (.bool z)))]) (fun z=>H) (fun z=>k z=some r) ?_ ?_
  ·intro B f;refine Y4 ?_;refine cP b (fun m b=>?_) (fun m b=>?_)
   ·refine ag.skip ?_;exact f _ (decide (a0.ai=(1:Int))) wA b
   refine Y4 ?_;exact f _ (decide (a0.ai=(2:Int))) wA b
  rintro C b;have b:=ku l b;refine cP b (fun p b=>?_) (fun p b=>?_)
  ·refine Y3 ?_;refine aU Z6.c a0.aq fun E=>Y3 ?_;exact rt b
  obtain⟨q,s,b⟩:=dU b;refine aO (tl [1,4]) (fun(z:Bool)=>[(12,.a (.d (.bool z)))]) (fun z=>H) (fun z=>q z=some r) ?_ ?_
  ·intro F g;refine Y4 ?_;refine cP b (fun t b=>?_) (fun t b=>?_)
   ·refine ag.skip ?_;exact g _ (decide (a0.ai=(3:Int))) wA b
   refine Y4 ?_;exact g _ (decide (a0.ai=(4:Int))) wA b
  rintro G b;have b:=ku s b;refine cP b (fun u b=>?_) (fun u b=>?_)
  ·refine Y3 ?_;refine aU Z8.c a0.ax fun I=>Y3 ?_;exact rt b
  refine Y4 ?_;refine cP b (fun v b=>?_) (fun v b=>?_)
  ·refine Y3 ?_;refine aU Z7.c a0.aF fun J=>Y3 ?_;exact rt b
  refine ag.skip ?_;obtain⟨K,w,b⟩:=dU b;exact j _ () wA (ku w b:)
 rintro _ b;refine Y3 ?_;exact rt b
def qE (b:Bs):List Bs->Unit ⊕ Bool
 | []=>Sum.inl ()
 | f::g=>on (f) fun j=>bif ((j==b)) then(Sum.inr true) else(qE b (g) )
def wC (a0:(Sl Bs)) (g:Bs):Bool:=on (qE g a0.l ) fun b=>match b with|Sum.inl _=>(on (()) fun _=>false)|Sum.inr f=>(f)
def Bl (a0:(Sl Bs)) (b:Bs):Option Bool:=some (wC a0 b)
theorem QS (a0:(Sl Bs)) (a1:Bs):Bl a0 a1=some (wC a0 a1):=rfl
theorem IJ {a0 f w0 r}(b:Bl a0 f=some r) (H:af) :At 139 [.d (Sl.d 1 aG w0 a0),.d (.str f)] H (RT (.a (.d (.bool r))) H):=by
 unfold Bl wC at b;refine AC.oW 18 [.tmp 4] Tryz.call139 Tryz.func139 ?_;refine Y3 ?_;refine aO kN (fun(z:Unit)=>[]) (fun z=>H) (fun z=>some (false)=some r) ?_ ?_
 ·intro B p;refine Y4 ?_;obtain⟨g,j,b⟩:=dU b;refine bz (tl [0,1]) (fun(z:Nat)=>[(5,vi z)]) (fun z=>H) (fun z=>a0.l.length-z) (fun z=>g (qE f (a0.l.drop z) )=some r) 0 b wA ?_;rintro k b C q;refine ar fun E s=>Y3 ?_;refine aU aG a0 fun F=>Y2 ?_;refine ag.bJ (fun l=>g (qE f l )=some r) b rfl (fun G m t b=>?_) (fun t b=>?_)
  ·rw [qE] at b;refine sk s (ar fun I u=>Y4 ?_);obtain⟨J,v,b⟩:=vP m b;refine S (ix aG k v) (Y4 ?_);refine cP b (fun w b=>?_) (fun w b=>?_)
   ·refine Y3 ?_;exact rs (ku j b:)
   refine sk u (Y5 ?_);exact q _ (k+1) wA b (dl m)
  rw [qE] at b;have b:=ku j b;refine ag.exit ?_;obtain⟨K,y,b⟩:=dU b;exact p _ () wA (ku y b:)
 rintro _ b;refine Y3 ?_;exact rt b
def yZ (a0:aL):Option Bool:=aZ ((decide (((a0.aH.l.length:Nat):Int)=(1:Int)))) (a0.aH.l[0]?) (0:Int) fun b=>some ((decide (((a0.aH.l.length:Nat):Int)=(1:Int)))&&(decide (b=(1:Int))))
theorem QU {a0 r}(b:yZ a0=some r) (H:af) :At 173 [.agg (aL.c a0)] H (RT (.a (.d (.bool r))) H):=by
 unfold yZ at b;refine AC.oW 14 [.tmp 2] Tryz.call173 Tryz.func173 ?_;refine Y7 ?_;refine aU (bL .i64) a0.aH fun g=>Y3 ?_;refine Gk 8 ?_;obtain⟨j,f,b⟩:=eB b;refine bI 9 rfl (fun hC=>ix (bL .i64) 0 (f hC)) ?_;refine Gk 10 ?_;refine Gk 11 ?_;refine Y3 ?_;exact rt b
def pw (a0:ak) (j:Bs):List Z7->(Sl Bs)->Option ((Sl Bs))
 | [],f=>some f
 | l::m,f=>on (l) fun b=>on (eR a0 b.av.aa) fun g=>(yZ b.av).bind fun k=>on (bif (k&&(((b.av.aa==j))||(g.2&&(decide (g.1.ai=(5:Int)))))) then wC f b.av.aa else false) fun p=>Option.bind (bif ((k&&(((b.av.aa==j))||(g.2&&(decide (g.1.ai=(5:Int))))))&&(!p)) then((bh 16 f (⟨false,[b.av.aa]⟩:Sl Bs)).bind fun q=>some q) else(some f)) fun r=>pw a0 j (m) r
def Bm (a0:ak) (g:ah) (j:Bs) (k:(Sl Bs)):Option (Sl Bs):=Option.bind (pw a0 j g.aF.l k) fun b=>on (b) fun f=>some f
def wD (a0:ak) (b:ah) (f:Bs) (g:(Sl Bs)):Option (Sl Bs):=Bm a0 b f g
theorem QV (a0:ak) (a1:ah) (a2:Bs) (a3:(Sl Bs)):wD a0 a1 a2 a3=Bm a0 a1 a2 a3:=rfl
theorem IK {a0 f g j g3 r}(b:wD a0 f g j=some r) (H:af) (N:H g3=some (.tok 1 j.l.length)):At 138 [.agg (ak.c a0),.agg (ah.c f),.d (.str g),.d (Sl.d 1 aG (some g3) j)] H (RT (.a (.d (Sl.d 1 aG (some g3) r))) ((tS H g3 1 r))):=by
 unfold wD Bm at b;refine AC.oW 62 [.tmp 8] Tryz.call138 Tryz.func138 ?_;refine hz (tS H g3 1 j) (Y5 ?_);refine aO kN (fun(z:(Sl Bs))=>[(3,.a (.d (Sl.d 1 aG (some g3) z)))]) (fun z=>(tS H g3 1 z)) (fun z=>(some z)=some r) ?_ ?_
 ·intro O u;refine Y4 ?_;obtain⟨k,v,b⟩:=bZ b;refine bz (tl [2,4,5]) (fun(z:(Sl Bs)×Nat)=>[(3,.a (.d (Sl.d 1 aG (some g3) z.1))),(9,vi z.2)]) (fun z=>(tS H g3 1 z.1)) (fun z=>f.aF.l.length-z.2) (fun z=>Option.bind (pw a0 g (f.aF.l.drop z.2) z.1) k=some r) (j,0) b wA ?_;rintro ⟨m,p⟩ b P w;refine ar fun Q y=>Y4 ?_;refine aU Z7.c f.aF fun R=>Y2 ?_
  refine ag.bJ (fun l=>Option.bind (pw a0 g l m) k=some r) b rfl (fun U q B b=>?_) (fun B b=>?_)
  ·rw [pw] at b;refine sk y (aO (tl [2,4,5,9]) (fun(z:(Sl Bs))=>[(3,.a (.d (Sl.d 1 aG (some g3) z)))]) (fun z=>(tS H g3 1 z)) (fun z=>Option.bind (pw a0 g (f.aF.l.drop (p+1)) z) k=some r) ?_ ?_)
   ·intro W s;refine Y5 ?_;obtain⟨X,C,b⟩:=vO q b;refine S (ix Z7.c p C) (Y5 ?_);refine bC 10 _ rfl (kl [2,3,4,5,9]) ?_;refine Y4 ?_;obtain⟨Y,E,b⟩:=eG b;refine Sc rfl rfl (mD E) (Y7 ?_);refine bC 11 _ rfl (kl [2,3,4,5,9,10,12]) ?_;refine Y2 ?_;obtain⟨Z,F,b⟩:=aJ b;refine Sc rfl rfl (QU F) (Y2 ?_);refine Gk 36 ?_;refine Y1 ?_
    refine G2 37 38 rfl rfl BS ?_;refine Gk 39 ?_;refine Y1 ?_;refine Gk 41 ?_;refine Y1 ?_;refine Gk 43 ?_;refine Gk 44 ?_;refine bI 42 rfl (fun hC=>kI rfl rfl rfl) ?_;refine bI 40 rfl (fun hC=>we rfl rfl rfl) ?_;refine Y4 ?_;refine Gk 51 ?_;obtain⟨aa,G,b⟩:=ee (fun _=>rfl) b;refine fS 50 52 rfl rfl rfl rfl rfl rfl (fun hC=>IJ (G hC)) ?_;refine Gk 53 ?_;refine Y2 ?_
    obtain⟨ab,t,b⟩:=dA b;refine cO b (fun I b=>?_) (fun I b=>?_)
    ·refine Y5 ?_;obtain⟨J,K,b⟩:=aJ b;refine SH (am aG (TK rfl) rfl (TK rfl) (TK rfl) K) ?_;refine Y2 ?_;exact s _ J wA (ku t b:)
    refine ag.skip ?_;exact s _ m wA (ku t b:)
   rintro L b;refine Y5 ?_;exact w _ (L,(p+1)) wA b (dl q)
  rw [pw] at b;have b:=ku v b;refine ag.exit ?_;obtain⟨ad,M,b⟩:=bW b;exact u _ m wA (ku M b:)
 rintro ae b;refine Y4 ?_;exact rt b
def Bn (g:ah)  (b:(Sl Bs)):Option Bool:=(Bl b g.aa).bind fun f=>some f
def wE (a0:ak) (g:ah) :Nat->(Sl Bs)->Nat->Option Bool
 | 0,_,_=>none
 | j+1,b,f=>bif (decide (((f:Nat):Int)<((b.l.length:Nat):Int))) then((b.l[f]?).bind fun k=>(Bg a0 k).bind fun m=>(wD a0 m.1 g.aa b).bind fun p=>(wE a0 g j) p (f+1)) else(Bn g  b)
def y5 (a0:ak) (b:ah):Option Bool:=bif (!decide (b.ai=(5:Int))) then(some false) else((wD a0 b b.aa (Sl.nil:Sl Bs)).bind fun x7=>wE a0 b F0 x7 0)
theorem QW {a0 g r}(b:y5 a0 g=some r) (H:af) :At 98 [.agg (ak.c a0),.agg (ah.c g)] H (RT (.a (.d (.bool r))) H):=by
 unfold y5 at b;refine AC.oW 42 [.tmp 4] Tryz.call98 Tryz.func98 ?_;refine ag.tok 1 fun f I=>?_;refine Y5 ?_;refine ar fun J m=>Y5 ?_;refine cE b (fun p b=>?_) (fun p b=>?_)
 ·refine Y3 ?_;refine ry ?_;obtain rfl:=oJ b;refine bU.cH H rfl ⟨rfl,rfl⟩ ?_;exact sy
 refine sk m (Y5 ?_);obtain⟨x7,q,b⟩:=bO b;refine sH (bV rfl rfl (AC.HJ (.cons (.refl _) (.cons (.refl _) (.cons (.refl _) (.cons (nM.nil (k':=1) (t:=f) az) .nil)))) (IK q _ az))) rfl ?_;refine Y2 ?_;refine aO (tl [3]) (fun(z:(Sl Bs))=>[(5,.a (.d (Sl.d 1 aG (some f) z)))]) (fun z=>(tS H f 1 z)) (fun z=>Bn g z=some r) ?_ ?_
 ·intro K s;refine Y4 ?_;refine bz (tl [2,3]) (fun(z:Nat×(Sl Bs)×Nat)=>[(5,.a (.d (Sl.d 1 aG (some f) z.2.1))),(6,vi z.2.2)]) (fun z=>(tS H f 1 z.2.1)) (fun z=>z.1) (fun z=>wE a0 g z.1 z.2.1 z.2.2=some r) (F0,x7,0) b wA ?_;rintro ⟨j,k,l⟩ b L u;cases j with
  | zero=>cases b
  | succ j =>
    rw [wE] at b;refine ar fun M v=>Y3 ?_;refine aU aG k fun N=>Y2 ?_;refine cE b (fun w b=>?_) (fun w b=>?_)
    ·refine sk v (ar fun O y=>Y5 ?_);obtain⟨P,B,b⟩:=bO b;refine Sd (ix aG l B) (Y1 ?_);obtain⟨Q,C,b⟩:=bO b;refine cF rfl rfl (mD C) (Y7 ?_);refine bC 7 _ rfl (kl [2,3,5,6]) ?_;refine Y6 ?_;obtain⟨E,F,b⟩:=bO b;refine sH (bV rfl rfl (IK F _ az)) rfl ?_;refine Y2 ?_;refine y _ ?_;refine Y5 ?_;exact u _ (j,E,(l+1)) wA b (nS _)
    refine ag.exit ?_;exact s _ k wA b
 rintro R b;unfold Bn at b;refine Y4 ?_;obtain⟨S,G,b⟩:=bO b;refine Sc rfl rfl (IJ G) (Y2 ?_);refine ry ?_;obtain rfl:=oJ b;refine bU.cH H rfl ⟨rfl,rfl⟩ ?_;exact sy
def y7  (b:(Sl Z5)):Option (Sl Z5):=some b
def sG (a0:ak) (x3:ah)  (b:(Sl Z5)):Option (Sl Z5):=(y5 a0 x3).bind fun f=>bif f then((bh 24 b (⟨false,[(Z5.mk 5 x3.aa)]⟩:Sl Z5)).bind fun g=>y7   g) else(y7   b)
def wF (a0:ak) (x3:ah)  (b:(Sl Z5)):Option (Sl Z5):=bif (((((((x3.aa==([81,117,101,114,121]:Bs)))||((x3.aa==([77,117,116,97,116,105,111,110]:Bs))))||((x3.aa==([83,117,98,115,99,114,105,112,116,105,111,110]:Bs))))&&(!decide (x3.ai=(1:Int))))||(decide (x3.ai<(1:Int))))||(decide ((5:Int)<x3.ai))) then((bh 24 b (⟨false,[(Z5.mk 9 x3.aa)]⟩:Sl Z5)).bind fun f=>sG a0 x3  f) else(sG a0 x3  b)
def wG (a0:ak) (x3:ah)  (f:Bool):Option (Sl Z5):=(wB x3.aa false f x3.aa).bind fun b=>(Bk x3).bind fun g=>bif g then((bh 24 b (⟨false,[(Z5.mk 8 x3.aa)]⟩:Sl Z5)).bind fun j=>wF a0 x3  j) else(wF a0 x3  b)
def wH (a0:ak) (g:Int) (x3:ah) :Nat->Bool->Int->Option (Sl Z5)
 | 0,_,_=>none
 | j+1,b,f=>bif (decide (f<g)) then(aZ (!b) (c_ a0.aj.l f) ah.zero fun k=>(cN f (1:Int)).bind fun m=>(wH a0 g x3 j) (b||((k.aa==x3.aa))) m) else(wG a0 x3  b)
def Bo (a0:ak) (b:Int):Option (Sl Z5):=(c_ a0.aj.l b).bind fun x3=>(Bh x3.aa).bind fun x5=>wH a0 b x3 F0 x5 (0:Int)
theorem QX {a0 k r}(b:Bo a0 k=some r) (H:af) :At 54 [.agg (ak.c a0),.d (.int .i64 k)] H (RT (.a (.d (Sl.d 2 Z5.c none r))) H):=by
 unfold Bo at b;refine AC.oW 94 [.tmp 4] Tryz.call54 Tryz.func54 ?_;refine Y2 ?_;refine s0 (dM (k':=2) rfl) rfl ?_;refine Y5 ?_;obtain⟨x3,s,b⟩:=bO b;refine s0 (iV (f:=ah.c) (TK rfl) rfl (TK rfl) rfl rfl rfl s) rfl ?_;refine Y4 ?_;refine bC 5 _ rfl (kl [1,2]) ?_;refine Y3 ?_;obtain⟨x5,t,b⟩:=bO b;refine Sc rfl rfl (wy t) (Y2 ?_)
 refine aO (tl [2,5]) (fun(z:Bool)=>[(6,.a (.d (.bool z)))]) (fun z=>H) (fun z=>wG a0 x3 z=some r) ?_ ?_
 ·intro ab u;refine Y4 ?_;refine bz (tl [1,2,5]) (fun(z:Nat×Bool×Int)=>[(6,.a (.d (.bool z.2.1))),(7,.a (.d (.int .i64 z.2.2)))]) (fun z=>H) (fun z=>z.1) (fun z=>wH a0 k x3 z.1 z.2.1 z.2.2=some r) (F0,x5,(0:Int)) b wA ?_;rintro ⟨j,l,ad⟩ b ae v;cases j with
  | zero=>cases b
  | succ j =>
    rw [wH] at b;refine ar fun ai w=>Y5 ?_;refine cE b (fun y b=>?_) (fun y b=>?_)
    ·refine sk w (ar fun aj B=>Y1 ?_);refine ag.draw rfl ?_;refine Y3 ?_;refine cm 25 ?_;refine Y1 ?_;obtain⟨C,E,b⟩:=gO b;refine gq 26 27 rfl rfl (fun hC=>iV (f:=ah.c) (TK rfl) rfl (TK rfl) rfl rfl rfl (E hC)) ?_;refine cm 28 ?_;refine cm 29 ?_;refine Y1 ?_;refine cm 31 ?_;refine qx 30 32 rfl rfl BS ?_;refine Y3 ?_;refine B _ ?_;refine Y2 ?_;obtain⟨F,G,b⟩:=bO b
     refine S (fp G) (Y2 ?_);exact v _ (j,(l||((C.aa==x3.aa))),F) wA b (nS _)
    refine ag.exit ?_;exact u _ l wA b
 rintro al b;unfold wG at b;refine ag.tok 2 fun g ao=>?_;refine Y6 ?_;obtain⟨I,J,b⟩:=bO b;refine sH (bV rfl rfl (QN J _ az)) rfl ?_;refine Y2 ?_;refine aO (tl [2,5]) (fun(z:(Sl Z5))=>[(8,.a (.d (Sl.d 2 Z5.c (some g) z)))]) (fun z=>(tS H g 2 z)) (fun z=>wF a0 x3 z=some r) ?_ ?_
 ·intro ap m;refine Y2 ?_;obtain⟨aq,K,b⟩:=bO b;refine Sc rfl rfl (QR K) (Y1 ?_);refine cE b (fun L b=>?_) (fun L b=>?_)
  ·refine Y6 ?_;obtain⟨M,N,b⟩:=bO b;refine SH (am Z5.c (TK rfl) rfl (TK rfl) (TK rfl) N) ?_;refine Y2 ?_;exact m _ M wA b
  refine ag.skip ?_;exact m _ I wA b
 rintro O b;unfold wF at b;refine Y6 ?_;refine Gk 53 ?_;refine Gk 54 ?_;refine Y3 ?_;refine Gk 58 ?_;refine Gk 59 ?_;refine Y3 ?_;refine aO (tl [2,5]) (fun(z:(Sl Z5))=>[(8,.a (.d (Sl.d 2 Z5.c (some g) z)))]) (fun z=>(tS H g 2 z)) (fun z=>sG a0 x3 z=some r) ?_ ?_
 ·intro au p;refine Y4 ?_;refine Gk 64 ?_;refine Gk 65 ?_;refine Y3 ?_;refine Gk 69 ?_;refine Gk 70 ?_;refine Y3 ?_;refine Gk 74 ?_;refine Gk 75 ?_;refine Y2 ?_;refine cE b (fun P b=>?_) (fun P b=>?_)
  ·refine Y6 ?_;obtain⟨Q,R,b⟩:=bO b;refine SH (am Z5.c (TK rfl) rfl (TK rfl) (TK rfl) R) ?_;refine Y2 ?_;exact p _ Q wA b
  refine ag.skip ?_;exact p _ O wA b
 rintro U b;unfold sG at b;refine aO kN (fun(z:(Sl Z5))=>[(8,.a (.d (Sl.d 2 Z5.c (some g) z)))]) (fun z=>(tS H g 2 z)) (fun z=>y7 z=some r) ?_ ?_
 ·intro av q;refine Y3 ?_;obtain⟨aw,W,b⟩:=bO b;refine Sc rfl rfl (QW W) (Y1 ?_);refine cE b (fun X b=>?_) (fun X b=>?_)
  ·refine Y6 ?_;obtain⟨Y,Z,b⟩:=bO b;refine SH (am Z5.c (TK rfl) rfl (TK rfl) (TK rfl) Z) ?_;refine Y2 ?_;exact q _ Y wA b
  refine ag.skip ?_;exact q _ U wA b
 rintro ax b;unfold y7 at b;refine Y4 ?_;refine ag.eF 4 rfl ?_;refine ry ?_;obtain rfl:=oJ b;refine bU.cH H rfl ⟨rfl,rfl⟩ ?_;exact sy
def Ed (a0:ak) (b:Int):Option (Sl Z5):=Bo a0 b
def kP (f:Bs):List Z6->Unit ⊕ ((Z6×Bool))
 | []=>Sum.inl ()
 | b::g=>on (b) fun j=>bif ((j.aa==f)) then(on (b) fun k=>Sum.inr (k,true)) else(kP f (g) )
def nQ (a0:ah) (g:Bs):(Z6×Bool):=on (kP g a0.aq.l ) fun b=>match b with|Sum.inl _=>(on (()) fun _=>((Z6.mk [] Sl.nil aL.zero Sl.nil),false))|Sum.inr f=>(f)
theorem Ee {a0 f r}(b:some (nQ a0 f)=some r) (H:af) :At 29 [.agg (ah.c a0),.d (.str f)] H (RT (.cL [.agg (Z6.c r.1),.d (.bool r.2)]) H):=by
 unfold nQ at b;refine AC.oW 28 [.cell 4 49,.tmp 5] Tryz.call29 Tryz.func29 ?_;refine Y5 ?_;refine dS (tl [4]) (fun(z:Z6)=>[]) (fun z=>[Z6.c z]) (fun z=>H) (fun z=>some (((Z6.mk [] Sl.nil aL.zero Sl.nil),false))=some r) ?_ ?_
 ·intro E q;refine Y4 ?_;obtain⟨k,m,b⟩:=dU b;refine gz (tl [1,2,4]) (fun(z:Nat×Z6)=>[(6,vi z.1)]) (fun z=>[Z6.c z.2]) (fun z=>H) (fun z=>a0.aq.l.length-z.1) (fun z=>k (kP f (a0.aq.l.drop z.1) )=some r) (0,Z6.zero) b wA ?_;rintro ⟨g,p⟩ b F s;refine ar fun G t=>Y4 ?_;refine aU Z6.c a0.aq fun I=>Y2 ?_
  refine ag.bJ (fun l=>k (kP f l )=some r) b rfl (fun J j u b=>?_) (fun u b=>?_)
  ·rw [kP] at b;refine sk t (ar fun K v=>Y5 ?_);obtain⟨L,w,b⟩:=vP j b;refine S (ix Z6.c g w) (Y5 ?_);refine cP b (fun y b=>?_) (fun y b=>?_)
   ·refine Y4 ?_;obtain⟨M,B,b⟩:=vP j b;refine S (ix Z6.c g B) (Y4 ?_);exact rs (ku m b:)
   refine sk v (Y5 ?_);exact s _ ((g+1),p) wA b (dl j)
  rw [kP] at b;have b:=ku m b;refine ag.exit ?_;obtain⟨N,C,b⟩:=dU b;exact q _ p wA (ku C b:)
 rintro O b;refine Y5 ?_;exact rt b
def jM (f:Bs):List Z7->Unit ⊕ ((Z7×Bool))
 | []=>Sum.inl ()
 | b::g=>on (b) fun j=>bif ((j.aa==f)) then(on (b) fun k=>Sum.inr (k,true)) else(jM f (g) )
def iZ (a0:(Sl Z7)) (g:Bs):(Z7×Bool):=on (jM g a0.l ) fun b=>match b with|Sum.inl _=>(on (()) fun _=>((Z7.mk [] aL.zero false Z9.zero Sl.nil),false))|Sum.inr f=>(f)
theorem y8 {a0 f w0 r}(b:some (iZ a0 f)=some r) (H:af) :At 61 [.d (Sl.d 10 Z7.c w0 a0),.d (.str f)] H (RT (.cL [.agg (Z7.c r.1),.d (.bool r.2)]) H):=by
 unfold iZ at b;refine AC.oW 25 [.cell 4 81,.tmp 5] Tryz.call61 Tryz.func61 ?_;refine Y4 ?_;refine dS (tl [4]) (fun(z:Z7)=>[]) (fun z=>[Z7.c z]) (fun z=>H) (fun z=>some (((Z7.mk [] aL.zero false Z9.zero Sl.nil),false))=some r) ?_ ?_
 ·intro E q;refine Y4 ?_;obtain⟨k,m,b⟩:=dU b;refine gz (tl [0,1,4]) (fun(z:Nat×Z7)=>[(6,vi z.1)]) (fun z=>[Z7.c z.2]) (fun z=>H) (fun z=>a0.l.length-z.1) (fun z=>k (jM f (a0.l.drop z.1) )=some r) (0,Z7.zero) b wA ?_;rintro ⟨g,p⟩ b F s;refine ar fun G t=>Y3 ?_;refine aU Z7.c a0 fun I=>Y2 ?_
  refine ag.bJ (fun l=>k (jM f l )=some r) b rfl (fun J j u b=>?_) (fun u b=>?_)
  ·rw [jM] at b;refine sk t (ar fun K v=>Y4 ?_);obtain⟨L,w,b⟩:=vP j b;refine S (ix Z7.c g w) (Y5 ?_);refine cP b (fun y b=>?_) (fun y b=>?_)
   ·refine Y3 ?_;obtain⟨M,B,b⟩:=vP j b;refine S (ix Z7.c g B) (Y4 ?_);exact rs (ku m b:)
   refine sk v (Y5 ?_);exact s _ ((g+1),p) wA b (dl j)
  rw [jM] at b;have b:=ku m b;refine ag.exit ?_;obtain⟨N,C,b⟩:=dU b;exact q _ p wA (ku C b:)
 rintro O b;refine Y5 ?_;exact rt b
def px (a0:ak) (b:Bs):Bool:=on (eR a0 b) fun x3=>on (jq b) fun x5=>(x5||x3.2)
theorem IL {a0 f r}(b:some (px a0 f)=some r) (H:af) :At 99 [.agg (ak.c a0),.d (.str f)] H (RT (.a (.d (.bool r))) H):=by
 unfold px at b;refine AC.oW 18 [.tmp 4] Tryz.call99 Tryz.func99 ?_;refine Y7 ?_;obtain⟨x3,g,b⟩:=ff b;refine Sc rfl rfl (mD g) (Y7 ?_);refine bC 5 _ rfl (kl [1,6]) ?_;refine Y2 ?_;obtain⟨x5,j,b⟩:=ff b;refine Sc rfl rfl (wy j) (Y5 ?_);exact rt b
def sI (a0:ak) (b:Bs):Bool:=on (eR a0 b) fun x3=>on (jq b) fun x5=>(x5||(x3.2&&(decide (x3.1.ai=(4:Int)))))
theorem QY {a0 f r}(b:some (sI a0 f)=some r) (H:af) :At 140 [.agg (ak.c a0),.d (.str f)] H (RT (.a (.d (.bool r))) H):=by
 unfold sI at b;refine AC.oW 23 [.tmp 4] Tryz.call140 Tryz.func140 ?_;refine Y7 ?_;obtain⟨x3,g,b⟩:=ff b;refine Sc rfl rfl (mD g) (Y7 ?_);refine bC 5 _ rfl (kl [1,6]) ?_;refine Y2 ?_;obtain⟨x5,j,b⟩:=ff b;refine Sc rfl rfl (wy j) (Y2 ?_);refine Gk 16 ?_;refine Y1 ?_;refine Gk 18 ?_;refine Gk 19 ?_;refine bI 17 rfl (fun hC=>kI rfl rfl rfl) ?_;refine Y3 ?_;exact rt b
def jN (a0:ak) (b:Bs):Bool:=on (eR a0 b) fun x3=>on (sI a0 b) fun x5=>(x5||(x3.2&&(decide (x3.1.ai=(5:Int)))))
theorem Ef {a0 f r}(b:some (jN a0 f)=some r) (H:af) :At 100 [.agg (ak.c a0),.d (.str f)] H (RT (.a (.d (.bool r))) H):=by
 unfold jN at b;refine AC.oW 24 [.tmp 4] Tryz.call100 Tryz.func100 ?_;refine Y7 ?_;obtain⟨x3,g,b⟩:=ff b;refine Sc rfl rfl (mD g) (Y7 ?_);refine bC 5 _ rfl (kl [1,2,6]) ?_;refine Y3 ?_;obtain⟨x5,j,b⟩:=ff b;refine Sc rfl rfl (QY j) (Y2 ?_);refine Gk 17 ?_;refine Y1 ?_;refine Gk 19 ?_;refine Gk 20 ?_;refine bI 18 rfl (fun hC=>kI rfl rfl rfl) ?_;refine Y3 ?_;exact rt b
def py (a0:ak) (m:(Sl Z7)) (p:Bs) (q:Bs):List Z7->Nat->(Sl Z5)->Option ((Sl Z5))
 | [],f,g=>some g
 | b::r,f,g=>on (b) fun s=>(a_ p s.aa).bind fun t=>(a_ t q).bind fun j=>on ((⟨m.nl,m.l.take f⟩:Sl Z7)) fun u=>on (b) fun v=>on (iZ u v.aa) fun w=>on (b) fun y=>(nP y.aa false w.2 j).bind fun z=>(bh 24 g z).bind fun k=>on (b) fun B=>on (px a0 B.av.aa) fun C=>Option.bind (bif (!C) then((bh 24 k (⟨false,[(Z5.mk 8 j)]⟩:Sl Z5)).bind fun E=>some E) else(on (b) fun F=>on (jN a0 F.av.aa) fun G=>bif (!G) then((bh 24 k (⟨false,[(Z5.mk 10 j)]⟩:Sl Z5)).bind fun H=>some H) else(some k))) fun I=>py a0 m p q (r) (f+1) I
def sJ (a0:ak) (b:(Sl Z7)) (j:Bs) (k:Bs):Option (Sl Z5):=Option.bind (py a0 b j k b.l 0 (Sl.nil:Sl Z5)) fun f=>on (f) fun g=>some g
theorem IM {a0 j p q y r}(b:sJ a0 j p q=some r) (H:af) :At 57 [.agg (ak.c a0),.d (Sl.d 10 Z7.c y j),.d (.str p),.d (.str q)] H (RT (.a (.d (Sl.d 2 Z5.c none r))) H):=by
 unfold sJ at b;refine AC.oW 80 [.tmp 8] Tryz.call57 Tryz.func57 ?_;refine ag.tok 2 fun k al=>?_;refine Y2 ?_;refine s0 (dM (k':=2) rfl) rfl ?_;refine Y4 ?_;refine ag.fe 9 2 k rfl az ?_;refine aO kN (fun(z:(Sl Z5))=>[(9,.a (.d (Sl.d 2 Z5.c (some k) z)))]) (fun z=>(tS H k 2 z)) (fun z=>(some z)=some r) ?_ ?_
 ·intro ao B;refine Y4 ?_;obtain⟨s,C,b⟩:=bZ b;refine bz (tl [1,2,3,4]) (fun(z:(Sl Z5)×Nat)=>[(9,.a (.d (Sl.d 2 Z5.c (some k) z.1))),(10,vi z.2)]) (fun z=>(tS H k 2 z.1)) (fun z=>j.l.length-z.2) (fun z=>Option.bind (py a0 j p q (j.l.drop z.2) z.2 z.1) s=some r) ((Sl.nil:Sl Z5),0) b wA ?_;rintro ⟨v,g⟩ b ap E;refine ar fun aq F=>Y3 ?_;refine aU Z7.c j fun au=>Y2 ?_
  refine ag.bJ (fun l=>Option.bind (py a0 j p q l g v) s=some r) b rfl (fun av m w b=>?_) (fun w b=>?_)
  ·rw [py] at b;have aw:=oD w;refine sk F (aO (tl [1,2,3,4,10]) (fun(z:(Sl Z5))=>[(9,.a (.d (Sl.d 2 Z5.c (some k) z)))]) (fun z=>(tS H k 2 z)) (fun z=>Option.bind (py a0 j p q (j.l.drop (g+1)) (g+1) z) s=some r) ?_ ?_)
   ·intro ax t;refine Y5 ?_;obtain⟨ay,G,b⟩:=vO m b;refine S (ix Z7.c g G) (Y2 ?_);obtain⟨aA,I,b⟩:=aJ b;refine S (bX I) (Y1 ?_);obtain⟨aB,J,b⟩:=aJ b;refine S (bX J) (Y5 ?_);obtain⟨aC,K,b⟩:=vO (Q.uP (by omega)) b;refine aN.s0 (lN (f:=Z7.c) (l:=none) (r:=(some ((g:Nat):Int))) (TK rfl) rfl (TK rfl) rfl rfl trivial rfl K) rfl ?_;refine Y2 ?_
    obtain⟨aD,L,b⟩:=vO m b;refine Sd (ix Z7.c g L) (Y2 ?_);obtain⟨aE,M,b⟩:=eG b;refine cF rfl rfl (y8 M) (Y7 ?_);refine bC 12 _ rfl (kl [1,2,3,4,9,10,11,13]) ?_;refine Y4 ?_;obtain⟨aF,N,b⟩:=vO m b;refine S (ix Z7.c g N) (Y4 ?_);obtain⟨aG,O,b⟩:=aJ b;refine Sc rfl rfl (Ec O) ?_;obtain⟨P,R,b⟩:=aJ b
    refine SH (am Z5.c (TK rfl) rfl (TK rfl) (TK rfl) R) ?_;refine Y6 ?_;obtain⟨aH,U,b⟩:=vO m b;refine Sd (ix Z7.c g U) (Y3 ?_);obtain⟨aI,W,b⟩:=eG b;refine cF rfl rfl (IL W) (Y2 ?_);obtain⟨aL,u,b⟩:=dA b;refine cO b (fun X b=>?_) (fun X b=>?_)
    ·refine Y5 ?_;obtain⟨Y,Z,b⟩:=aJ b;refine SH (am Z5.c (TK rfl) rfl (TK rfl) (TK rfl) Z) ?_;refine Y2 ?_;exact t _ Y wA (ku u b:)
    refine Y4 ?_;obtain⟨aM,aa,b⟩:=vO m b;refine Sd (ix Z7.c g aa) (Y3 ?_);obtain⟨aP,ab,b⟩:=eG b;refine cF rfl rfl (Ef ab) (Y2 ?_);refine cO b (fun ad b=>?_) (fun ad b=>?_)
    ·refine Y5 ?_;obtain⟨ae,ah,b⟩:=aJ b;refine SH (am Z5.c (TK rfl) rfl (TK rfl) (TK rfl) ah) ?_;refine Y2 ?_;exact t _ ae wA (ku u b:)
    refine ag.skip ?_;exact t _ P wA (ku u b:)
   rintro ai b;refine Y5 ?_;exact E _ (ai,(g+1)) wA b (dl m)
  rw [py] at b;have b:=ku C b;refine ag.exit ?_;obtain⟨aR,aj,b⟩:=bW b;exact B _ v wA (ku aj b:)
 rintro aS b;refine Y4 ?_;refine ag.eF 8 rfl ?_;refine ry ?_;obtain rfl:=oJ b;refine bU.cH H rfl ⟨rfl,rfl⟩ ?_;exact sy
def nT (a0:ak) (g:ah):List Z6->Nat->(Sl Z5)->Option ((Sl Z5))
 | [],j,k=>some k
 | q::r,j,k=>on (q) fun b=>(a_ g.aa ([46]:Bs)).bind fun s=>(a_ s b.aa).bind fun f=>on ((⟨g.aq.nl,g.aq.l.take j⟩:Sl Z6)) fun t=>on (nQ (ah.mk 0 [] Sl.nil Sl.nil t Sl.nil Sl.nil) b.aa) fun u=>(nP b.aa false u.2 f).bind fun v=>(bh 24 k v).bind fun m=>on (eR a0 b.av.aa) fun p=>on (px a0 b.av.aa) fun w=>Option.bind (bif (!w) then((bh 24 m (⟨false,[(Z5.mk 8 f)]⟩:Sl Z5)).bind fun y=>some y) else(on (jq b.av.aa) fun z=>bif (((!z)&&p.2)&&(decide (p.1.ai=(5:Int)))) then((bh 24 m (⟨false,[(Z5.mk 10 f)]⟩:Sl Z5)).bind fun B=>some B) else(some m))) fun C=>(a_ f ([40]:Bs)).bind fun E=>(sJ a0 b.ay E ([41]:Bs)).bind fun F=>(bh 24 C F).bind fun G=>on (G) fun H=>nT a0 g (r) (j+1) H
def y9 (a0:ak) (b:ah):Option (Sl Z5):=Option.bind (nT a0 b b.aq.l 0 (Sl.nil:Sl Z5)) fun f=>on (f) fun g=>some g
theorem QZ {a0 g r}(b:y9 a0 g=some r) (H:af) :At 55 [.agg (ak.c a0),.agg (ah.c g)] H (RT (.a (.d (Sl.d 2 Z5.c none r))) H):=by
 unfold y9 at b;refine AC.oW 95 [.tmp 4] Tryz.call55 Tryz.func55 ?_;refine ag.tok 2 fun j aw=>?_;refine Y3 ?_;refine s0 (dM (k':=2) rfl) rfl ?_;refine Y4 ?_;refine ag.fe 5 2 j rfl az ?_;refine aO kN (fun(z:(Sl Z5))=>[(5,.a (.d (Sl.d 2 Z5.c (some j) z)))]) (fun z=>(tS H j 2 z)) (fun z=>(some z)=some r) ?_ ?_
 ·intro ax C;refine Y4 ?_;obtain⟨m,E,b⟩:=bZ b;refine bz (tl [2,3]) (fun(z:(Sl Z5)×Nat)=>[(5,.a (.d (Sl.d 2 Z5.c (some j) z.1))),(6,vi z.2)]) (fun z=>(tS H j 2 z.1)) (fun z=>g.aq.l.length-z.2) (fun z=>Option.bind (nT a0 g (g.aq.l.drop z.2) z.2 z.1) m=some r) ((Sl.nil:Sl Z5),0) b wA ?_;rintro ⟨u,k⟩ b aA F;refine ar fun aB G=>Y4 ?_
  refine aU Z6.c g.aq fun aC=>Y2 ?_;refine ag.bJ (fun l=>Option.bind (nT a0 g l k u) m=some r) b rfl (fun aD v w b=>?_) (fun w b=>?_)
  ·rw [nT] at b;have aE:=oD w;refine sk G (aO (tl [2,3,6]) (fun(z:(Sl Z5))=>[(5,.a (.d (Sl.d 2 Z5.c (some j) z)))]) (fun z=>(tS H j 2 z)) (fun z=>Option.bind (nT a0 g (g.aq.l.drop (k+1)) (k+1) z) m=some r) ?_ ?_)
   ·intro aF I;refine Y5 ?_;obtain⟨J,K,b⟩:=vO v b;refine S (ix Z6.c k K) (Y4 ?_);refine bC 7 _ rfl (kl [2,3,5,6]) ?_;refine Y3 ?_;obtain⟨aG,L,b⟩:=aJ b;refine S (bX L) (Y2 ?_);obtain⟨M,N,b⟩:=aJ b;refine S (bX N) (Y6 ?_);obtain⟨aH,O,b⟩:=vO (Q.uP (by omega)) b
    refine aN.s0 (lN (f:=Z6.c) (l:=none) (r:=(some ((k:Nat):Int))) (TK rfl) rfl (TK rfl) rfl rfl trivial rfl O) rfl ?_;refine Y3 ?_;obtain⟨aI,P,b⟩:=eG b;refine cF rfl rfl (Ee P) (Y7 ?_);refine bC 9 _ rfl (kl [2,3,5,6,7,8,10]) ?_;refine Y6 ?_;obtain⟨aL,R,b⟩:=aJ b;refine Sc rfl rfl (Ec R) ?_;obtain⟨U,W,b⟩:=aJ b
    refine SH (am Z5.c (TK rfl) rfl (TK rfl) (TK rfl) W) ?_;refine Y7 ?_;obtain⟨aM,X,b⟩:=eG b;refine Sc rfl rfl (mD X) (Y7 ?_);refine bC 11 _ rfl (kl [2,3,5,6,7,8,12]) ?_
    refine aO (tl [2,3,6,7,8]) (fun(z:(Sl Z5))=>[(5,.a (.d (Sl.d 2 Z5.c (some j) z)))]) (fun z=>(tS H j 2 z)) (fun z=>Option.bind ((a_ M ([40]:Bs)).bind fun y=>(sJ a0 J.ay y ([41]:Bs)).bind fun B=>(bh 24 z B).bind fun p=>on (p) fun q=>nT a0 g (g.aq.l.drop (k+1)) (k+1) q) m=some r) ?_ ?_
    ·intro aP s;refine Y5 ?_;obtain⟨aR,Y,b⟩:=eG b;refine Sc rfl rfl (IL Y) (Y2 ?_);obtain⟨aS,t,b⟩:=dA b;refine cO b (fun Z b=>?_) (fun Z b=>?_)
     ·refine Y5 ?_;obtain⟨aa,ab,b⟩:=aJ b;refine SH (am Z5.c (TK rfl) rfl (TK rfl) (TK rfl) ab) ?_;refine Y2 ?_;exact s _ aa wA (ku t b:)
     refine Y4 ?_;obtain⟨aV,ad,b⟩:=eG b;refine Sc rfl rfl (wy ad) (Y6 ?_);refine Gk 77 ?_;refine Gk 78 ?_;refine Y2 ?_;refine cO b (fun ae b=>?_) (fun ae b=>?_)
     ·refine Y5 ?_;obtain⟨ai,aj,b⟩:=aJ b;refine SH (am Z5.c (TK rfl) rfl (TK rfl) (TK rfl) aj) ?_;refine Y2 ?_;exact s _ ai wA (ku t b:)
     refine ag.skip ?_;exact s _ U wA (ku t b:)
    rintro aW b;refine Y6 ?_;obtain⟨y,al,b⟩:=aJ b;refine S (bX al) ?_;obtain⟨B,ao,b⟩:=aJ b;refine Sc rfl rfl (IM ao) ?_;obtain⟨p,ap,b⟩:=aJ b;refine SH (am Z5.c (TK rfl) rfl (TK rfl) (TK rfl) ap) ?_;refine Y2 ?_;obtain⟨aX,au,b⟩:=iy b;exact I _ p wA (ku au b:)
   rintro q b;refine Y5 ?_;exact F _ (q,(k+1)) wA b (dl v)
  rw [nT] at b;have b:=ku E b;refine ag.exit ?_;obtain⟨aY,av,b⟩:=bW b;exact C _ u wA (ku av b:)
 rintro aZ b;refine Y4 ?_;refine ag.eF 4 rfl ?_;refine ry ?_;obtain rfl:=oJ b;refine bU.cH H rfl ⟨rfl,rfl⟩ ?_;exact sy
def qF (a0:ah) (g:Z8):Nat->Nat->Bool->Option (Bool)
 | 0,f,b=>some b
 | j+1,f,b=>aZ (!b) (a0.ax.l[f]?) Z8.zero fun k=>qF a0 g (j) (f+1) (b||((k.aa==g.aa)))
def mG (a0:ah):List Z8->Nat->(Sl Z5)->Option ((Sl Z5))
 | [],f,g=>some g
 | j::k,f,g=>on (j) fun b=>Option.bind (qF a0 b f 0 false) fun l=>on (l) fun m=>(a_ a0.aa ([46]:Bs)).bind fun p=>(a_ p b.aa).bind fun q=>(nP b.aa ((((b.aa==([116,114,117,101]:Bs)))||((b.aa==([102,97,108,115,101]:Bs))))||((b.aa==([110,117,108,108]:Bs)))) m q).bind fun r=>(bh 24 g r).bind fun s=>on (s) fun t=>mG a0 (k) (f+1) t
def y_ (a0:ah):Option (Sl Z5):=Option.bind (mG a0 a0.ax.l 0 (Sl.nil:Sl Z5)) fun b=>on (b) fun f=>some f
theorem Q0 {a0 r}(b:y_ a0=some r) (H:af) :At 56 [.agg (ah.c a0)] H (RT (.a (.d (Sl.d 2 Z5.c none r))) H):=by
 unfold y_ at b;refine AC.oW 58 [.tmp 2] Tryz.call56 Tryz.func56 ?_;refine ag.tok 2 fun f aj=>?_;refine Y2 ?_;refine s0 (dM (k':=2) rfl) rfl ?_;refine Y4 ?_;refine ag.fe 3 2 f rfl az ?_;refine aO kN (fun(z:(Sl Z5))=>[(3,.a (.d (Sl.d 2 Z5.c (some f) z)))]) (fun z=>(tS H f 2 z)) (fun z=>(some z)=some r) ?_ ?_
 ·intro ak C;refine Y4 ?_;obtain⟨m,E,b⟩:=bZ b;refine bz (tl [1]) (fun(z:(Sl Z5)×Nat)=>[(3,.a (.d (Sl.d 2 Z5.c (some f) z.1))),(4,vi z.2)]) (fun z=>(tS H f 2 z.1)) (fun z=>a0.ax.l.length-z.2) (fun z=>Option.bind (mG a0 (a0.ax.l.drop z.2) z.2 z.1) m=some r) ((Sl.nil:Sl Z5),0) b wA ?_;rintro ⟨k,g⟩ b al F;refine ar fun ao G=>Y4 ?_
  refine aU Z8.c a0.ax fun ap=>Y2 ?_;refine ag.bJ (fun l=>Option.bind (mG a0 l g k) m=some r) b rfl (fun aq u I b=>?_) (fun I b=>?_)
  ·rw [mG] at b;refine sk G (aO (tl [1,4]) (fun(z:(Sl Z5))=>[(3,.a (.d (Sl.d 2 Z5.c (some f) z)))]) (fun z=>(tS H f 2 z)) (fun z=>Option.bind (mG a0 (a0.ax.l.drop (g+1)) (g+1) z) m=some r) ?_ ?_)
   ·intro au J;refine Y5 ?_;obtain⟨j,K,b⟩:=vO u b;refine S (ix Z8.c g K) (Y7 ?_)
    refine aO (tl [1,3,4,5]) (fun(z:Bool)=>[(6,.a (.d (.bool z)))]) (fun z=>(tS H f 2 k)) (fun z=>Option.bind ((a_ a0.aa ([46]:Bs)).bind fun v=>(a_ v j.aa).bind fun w=>(nP j.aa ((((j.aa==([116,114,117,101]:Bs)))||((j.aa==([102,97,108,115,101]:Bs))))||((j.aa==([110,117,108,108]:Bs)))) z w).bind fun y=>(bh 24 k y).bind fun p=>on (p) fun q=>mG a0 (a0.ax.l.drop (g+1)) (g+1) q) m=some r) ?_ ?_
    ·intro av L;refine Y4 ?_;obtain⟨B,M,b⟩:=dA b;refine bz (tl [1,3,4,5]) (fun(z:Bool×Nat)=>[(6,.a (.d (.bool z.1))),(7,vi z.2)]) (fun z=>(tS H f 2 k)) (fun z=>g-z.2) (fun z=>Option.bind (qF a0 j (g-z.2) z.2 z.1) B=some r) (false,0) b wA ?_;rintro ⟨s,t⟩ b aw N;refine ar fun ay O=>Y5 ?_
     refine ag.Ik (fun l=>Option.bind (qF a0 j l t s) B=some r) b rfl (fun P Q b=>?_) (fun Q b=>?_)
     ·rw [qF] at b;refine sk O (ar fun aA R=>Y5 ?_);refine Gk 28 ?_;refine Y1 ?_;obtain⟨U,W,b⟩:=fz b;refine fJ 29 30 rfl rfl (fun hC=>ix Z8.c t (W hC)) ?_;refine Gk 31 ?_;refine Gk 32 ?_;refine Y1 ?_;refine G2 33 34 rfl rfl BS ?_;refine Y3 ?_;refine R _ ?_;refine Y5 ?_;exact N _ ((s||((U.aa==j.aa))),(t+1)) wA b (dn P)
     rw [qF] at b;have b:=ku M b;refine ag.exit ?_;obtain⟨aB,X,b⟩:=iy b;exact L _ s wA (ku X b:)
    rintro aC b;refine Y7 ?_;refine Gk 42 ?_;refine Y3 ?_;refine Gk 46 ?_;refine Y4 ?_;obtain⟨v,Y,b⟩:=aJ b;refine S (bX Y) (Y1 ?_);obtain⟨w,Z,b⟩:=aJ b;refine S (bX Z) ?_;obtain⟨y,ab,b⟩:=aJ b;refine Sc rfl rfl (Ec ab) ?_;obtain⟨p,ad,b⟩:=aJ b;refine SH (am Z5.c (TK rfl) rfl (TK rfl) (TK rfl) ad) ?_;refine Y2 ?_;obtain⟨aD,ae,b⟩:=iy b
    exact J _ p wA (ku ae b:)
   rintro q b;refine Y5 ?_;exact F _ (q,(g+1)) wA b (dl u)
  rw [mG] at b;have b:=ku E b;refine ag.exit ?_;obtain⟨aE,ai,b⟩:=bW b;exact C _ k wA (ku ai b:)
 rintro aF b;refine Y4 ?_;refine ag.eF 2 rfl ?_;refine ry ?_;obtain rfl:=oJ b;refine bU.cH H rfl ⟨rfl,rfl⟩ ?_;exact sy
def pz (a0:ak):List ah->Nat->(Sl Z5)->Option ((Sl Z5))
 | [],g,j=>some j
 | k::l,g,j=>on (k) fun b=>(Ed a0 ((g:Nat):Int)).bind fun m=>(bh 24 j m).bind fun f=>on (bif (decide (b.ai=(1:Int))) then((decide (b.ai=(1:Int)))) else((decide (b.ai=(2:Int))))) fun p=>Option.bind (bif p then((y9 a0 b).bind fun q=>(bh 24 f q).bind fun r=>some r) else(bif (decide (b.ai=(4:Int))) then((y_ b).bind fun s=>(bh 24 f s).bind fun t=>some t) else(bif (decide (b.ai=(5:Int))) then((a_ b.aa ([46]:Bs)).bind fun u=>(sJ a0 b.aF u ([]:Bs)).bind fun v=>(bh 24 f v).bind fun w=>some w) else(some f)))) fun y=>pz a0 (l) (g+1) y
def za (a0:ak) (m:Bool):Option (Sl Z5):=Option.bind (pz a0 a0.aj.l 0 (Sl.nil:Sl Z5)) fun f=>on (f) fun b=>on (eR a0 ([81,117,101,114,121]:Bs)) fun g=>Option.bind (bif (m&&(!g.2)) then((bh 24 b (⟨false,[(Z5.mk 30 [81,117,101,114,121])]⟩:Sl Z5)).bind fun j=>some j) else(some b)) fun k=>some k
theorem Q1 {a0:ak}{q:Bool}{r:Sl Z5}(b:za a0 q=some r) (H:af){f:Nat}(aB:H f=some (.tok 2 0)):At 25 [.agg (ak.c a0),.d (.bool q)] H (RT (.a (.d (Sl.d 2 Z5.c (some f) r))) (H.set f (some (.tok 2 r.l.length)))):=by
 unfold za at b;refine AC.oW 69 [.tmp 4] Tryz.call25 Tryz.func25 ?_;refine hz (H.set f (some (.tok 2 0))) (Y7 ?_);refine ag.fe 5 2 f rfl az ?_
 refine aO (tl [1,2]) (fun(z:(Sl Z5))=>[(5,.a (.d (Sl.d 2 Z5.c (some f) z)))]) (fun z=>(tS H f 2 z)) (fun z=>(on (eR a0 ([81,117,101,114,121]:Bs)) fun s=>Option.bind (bif (q&&(!s.2)) then((bh 24 z (⟨false,[(Z5.mk 30 [81,117,101,114,121])]⟩:Sl Z5)).bind fun m=>some m) else(some z)) fun t=>some t)=some r) ?_ ?_
 ·intro aC E;refine Y4 ?_;obtain⟨p,F,b⟩:=bZ b;refine bz (tl [1,2]) (fun(z:(Sl Z5)×Nat)=>[(5,.a (.d (Sl.d 2 Z5.c (some f) z.1))),(6,vi z.2)]) (fun z=>(tS H f 2 z.1)) (fun z=>a0.aj.l.length-z.2) (fun z=>Option.bind (pz a0 (a0.aj.l.drop z.2) z.2 z.1) p=some r) ((Sl.nil:Sl Z5),0) b wA ?_;rintro ⟨u,g⟩ b aD G;refine ar fun aE I=>Y4 ?_
  refine aU ah.c a0.aj fun aF=>Y2 ?_;refine ag.bJ (fun l=>Option.bind (pz a0 l g u) p=some r) b rfl (fun aG v J b=>?_) (fun J b=>?_)
  ·rw [pz] at b;refine sk I (aO (tl [1,2,6]) (fun(z:(Sl Z5))=>[(5,.a (.d (Sl.d 2 Z5.c (some f) z)))]) (fun z=>(tS H f 2 z)) (fun z=>Option.bind (pz a0 (a0.aj.l.drop (g+1)) (g+1) z) p=some r) ?_ ?_)
   ·intro aH j;refine Y5 ?_;obtain⟨w,K,b⟩:=vO v b;refine S (ix ah.c g K) (Y4 ?_);refine bC 7 _ rfl (kl [1,2,5,6]) ?_;refine Y4 ?_;obtain⟨aI,L,b⟩:=aJ b;refine Sc rfl rfl (QX L) ?_;obtain⟨y,M,b⟩:=aJ b;refine SH (am Z5.c (TK rfl) rfl (TK rfl) (TK rfl) M) ?_;refine Y7 ?_;obtain⟨N,O,b⟩:=iy b
    refine aO (tl [1,2,5,6,7,28]) (fun(z:Bool)=>[(29,.a (.d (.bool z)))]) (fun z=>(tS H f 2 y)) (fun z=>N z=some r) ?_ ?_
    ·intro aL B;refine Y4 ?_;refine cP b (fun P b=>?_) (fun P b=>?_)
     ·refine ag.skip ?_;exact B _ (decide (w.ai=(1:Int))) wA b
     refine Y4 ?_;exact B _ (decide (w.ai=(2:Int))) wA b
    rintro aM b;have b:=ku O b;obtain⟨aP,k,b⟩:=dA b;refine cO b (fun Q b=>?_) (fun Q b=>?_)
    ·refine Y4 ?_;obtain⟨aR,R,b⟩:=aJ b;refine Sc rfl rfl (QZ R) ?_;obtain⟨U,W,b⟩:=aJ b;refine SH (am Z5.c (TK rfl) rfl (TK rfl) (TK rfl) W) ?_;refine Y2 ?_;exact j _ U wA (ku k b:)
    refine Y4 ?_;refine cO b (fun X b=>?_) (fun X b=>?_)
    ·refine Y3 ?_;obtain⟨aS,Y,b⟩:=aJ b;refine Sc rfl rfl (Q0 Y) ?_;obtain⟨Z,aa,b⟩:=aJ b;refine SH (am Z5.c (TK rfl) rfl (TK rfl) (TK rfl) aa) ?_;refine Y2 ?_;exact j _ Z wA (ku k b:)
    refine Y4 ?_;refine cO b (fun ab b=>?_) (fun ab b=>?_)
    ·refine Y7 ?_;obtain⟨aV,ad,b⟩:=aJ b;refine S (bX ad) ?_;obtain⟨aW,ae,b⟩:=aJ b;refine Sc rfl rfl (IM ae) ?_;obtain⟨al,ao,b⟩:=aJ b;refine SH (am Z5.c (TK rfl) rfl (TK rfl) (TK rfl) ao) ?_;refine Y2 ?_;exact j _ al wA (ku k b:)
    refine ag.skip ?_;exact j _ y wA (ku k b:)
   rintro ap b;refine Y5 ?_;exact G _ (ap,(g+1)) wA b (dl v)
  rw [pz] at b;have b:=ku F b;refine ag.exit ?_;obtain⟨aX,aq,b⟩:=bW b;exact E _ u wA (ku aq b:)
 rintro au b;refine Y2 ?_;obtain⟨s,av,b⟩:=dQ b;refine Sc rfl rfl (mD av) (Y7 ?_);refine bC 8 _ rfl (kl [1,5,9]) ?_;obtain⟨aw,ax,b⟩:=bZ b;refine aO kN (fun(z:(Sl Z5))=>[(5,.a (.d (Sl.d 2 Z5.c (some f) z)))]) (fun z=>(tS H f 2 z)) (fun z=>aw z=some r) ?_ ?_
 ·intro aY C;refine Y4 ?_;refine Gk 61 ?_;refine Y2 ?_;refine cO b (fun ay b=>?_) (fun ay b=>?_)
  ·refine Y4 ?_;obtain⟨m,aA,b⟩:=aJ b;refine SH (am Z5.c (TK rfl) rfl (TK rfl) (TK rfl) aA) ?_;refine Y2 ?_;exact C _ m wA b
  refine ag.skip ?_;exact C _ au wA b
 rintro t b;have b:=ku ax b;refine Y4 ?_;exact rt b
def wI (a0:ak) (b:Bs) (g:Int):Int:=on (eR a0 b) fun x3=>on (bif (!x3.2) then jq b else false) fun f=>bif ((!x3.2)&&(!f)) then((8:Int)) else(bif (!decide (x3.1.ai=g)) then((9:Int)) else((0:Int)))
theorem IN {a0 f g r}(b:some (wI a0 f g)=some r) (H:af) :At 101 [.agg (ak.c a0),.d (.str f),.d (.int .i64 g)] H (RT (.a (.d (.int .i64 r))) H):=by
 unfold wI at b;refine AC.oW 26 [.tmp 6] Tryz.call101 Tryz.func101 ?_;refine Y7 ?_;obtain⟨x3,j,b⟩:=ff b;refine Sc rfl rfl (mD j) (Y7 ?_);refine bC 7 _ rfl (kl [1,2,8]) ?_;refine ar fun s k=>Y5 ?_;obtain⟨t,l,b⟩:=iX (fun _=>rfl) b;refine dP 18 rfl rfl rfl rfl rfl (fun hC=>wy (l hC)) ?_;refine Gk 19 ?_;refine Y2 ?_;refine cP b (fun m b=>?_) (fun m b=>?_)
 ·refine Y3 ?_;exact rt b
 refine sk k (ar fun u p=>Y6 ?_);refine cP b (fun q b=>?_) (fun q b=>?_)
 ·refine Y3 ?_;exact rt b
 refine sk p (Y3 ?_);exact rt b
def qG (b:Bs):List Bs->Unit ⊕ Bool
 | []=>Sum.inl ()
 | f::g=>on (f) fun j=>bif ((j==b)) then(Sum.inr true) else(qG b (g) )
def qH (a0:(Sl Bs)) (g:Bs):Bool:=on (qG g a0.l ) fun b=>match b with|Sum.inl _=>(on (()) fun _=>false)|Sum.inr f=>(f)
theorem Eg {a0 f w0 r}(b:some (qH a0 f)=some r) (H:af) :At 102 [.d (Sl.d 1 aG w0 a0),.d (.str f)] H (RT (.a (.d (.bool r))) H):=by
 unfold qH at b;refine AC.oW 18 [.tmp 4] Tryz.call102 Tryz.func102 ?_;refine Y3 ?_;refine aO kN (fun(z:Unit)=>[]) (fun z=>H) (fun z=>some (false)=some r) ?_ ?_
 ·intro B p;refine Y4 ?_;obtain⟨g,j,b⟩:=dU b;refine bz (tl [0,1]) (fun(z:Nat)=>[(5,vi z)]) (fun z=>H) (fun z=>a0.l.length-z) (fun z=>g (qG f (a0.l.drop z) )=some r) 0 b wA ?_;rintro k b C q;refine ar fun E s=>Y3 ?_;refine aU aG a0 fun F=>Y2 ?_;refine ag.bJ (fun l=>g (qG f l )=some r) b rfl (fun G m t b=>?_) (fun t b=>?_)
  ·rw [qG] at b;refine sk s (ar fun I u=>Y4 ?_);obtain⟨J,v,b⟩:=vP m b;refine S (ix aG k v) (Y4 ?_);refine cP b (fun w b=>?_) (fun w b=>?_)
   ·refine Y3 ?_;exact rs (ku j b:)
   refine sk u (Y5 ?_);exact q _ (k+1) wA b (dl m)
  rw [qG] at b;have b:=ku j b;refine ag.exit ?_;obtain⟨K,y,b⟩:=dU b;exact p _ () wA (ku y b:)
 rintro _ b;refine Y3 ?_;exact rt b
def pE (f:(Sl Int)):List Int->Nat->Option (Unit ⊕ Bool)
 | [],b=>some (Sum.inl ())
 | g::j,b=>on (g) fun k=>(f.l[b]?).bind fun m=>bif (!decide (k=m)) then(some (Sum.inr false)) else(pE f (j) (b+1) )
def uS (a0:(Sl Int)) (b:(Sl Int)):Option Bool:=bif (!decide (((a0.l.length:Nat):Int)=((b.l.length:Nat):Int))) then(some false) else(Option.bind (pE b a0.l 0 ) fun f=>match f with|Sum.inl _=>(on (()) fun _=>some true)|Sum.inr g=>(some g))
def Eh (a0:(Sl Int)) (b:(Sl Int)):Option Bool:=uS a0 b
theorem YI (a0:(Sl Int)) (a1:(Sl Int)):Eh a0 a1=uS a0 a1:=rfl
theorem Q2 {a0 f w0 p r}(b:Eh a0 f=some r) (H:af) :At 94 [.d (Sl.d 1 (bL .i64) w0 a0),.d (Sl.d 1 (bL .i64) p f)] H (RT (.a (.d (.bool r))) H):=by
 unfold Eh uS at b;refine AC.oW 26 [.tmp 4] Tryz.call94 Tryz.func94 ?_;refine Y3 ?_;refine ar fun G q=>Y2 ?_;refine aU (bL .i64) a0 fun I=>Y1 ?_;refine aU (bL .i64) f fun J=>Y2 ?_;refine cE b (fun s b=>?_) (fun s b=>?_)
 ·refine Y3 ?_;exact rt b
 refine sk q (aO kN (fun(z:Unit)=>[]) (fun z=>H) (fun z=>(some true)=some r) ?_ ?_)
 ·intro K t;refine Y4 ?_;obtain⟨j,k,b⟩:=bZ b;refine bz (tl [0,1]) (fun(z:Nat)=>[(5,vi z)]) (fun z=>H) (fun z=>a0.l.length-z) (fun z=>Option.bind (pE f (a0.l.drop z) z ) j=some r) 0 b wA ?_;rintro g b L u;refine ar fun M v=>Y3 ?_;refine aU (bL .i64) a0 fun N=>Y2 ?_
  refine ag.bJ (fun l=>Option.bind (pE f l g ) j=some r) b rfl (fun O m w b=>?_) (fun w b=>?_)
  ·rw [pE] at b;refine sk v (ar fun P y=>Y4 ?_);obtain⟨Q,B,b⟩:=vO m b;refine Sd (ix (bL .i64) g B) (Y3 ?_);obtain⟨R,C,b⟩:=aJ b;refine Sd (ix (bL .i64) g C) (Y3 ?_);refine cO b (fun E b=>?_) (fun E b=>?_)
   ·refine Y3 ?_;exact rs (ku k b:)
   refine sk y (Y5 ?_);exact u _ (g+1) wA b (dl m)
  rw [pE] at b;have b:=ku k b;refine ag.exit ?_;obtain⟨S,F,b⟩:=bW b;exact t _ () wA (ku F b:)
 rintro _ b;refine Y3 ?_;exact rt b
def qI (a0:aL) (b:aL):Option Bool:=aZ (((a0.aa==b.aa))) (uS a0.aH b.aH) false fun x3=>some (((a0.aa==b.aa))&&x3)
theorem Ei {a0 f r}(b:qI a0 f=some r) (H:af) :At 52 [.agg (aL.c a0),.agg (aL.c f)] H (RT (.a (.d (.bool r))) H):=by
 unfold qI at b;refine AC.oW 17 [.tmp 4] Tryz.call52 Tryz.func52 ?_;refine D5 ?_;refine Gk 11 ?_;refine Y1 ?_;refine Gk 13 ?_;obtain⟨x3,g,b⟩:=eB b;refine fS 12 14 rfl rfl rfl rfl rfl rfl (fun hC=>Q2 (g hC)) ?_;refine Y3 ?_;exact rt b
end Go.Proofs
