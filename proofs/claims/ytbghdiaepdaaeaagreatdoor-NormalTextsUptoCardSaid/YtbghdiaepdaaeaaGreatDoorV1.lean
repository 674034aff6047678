import Derived.Test.YtbghdiaepdaaeaaGreatDoorE3
import Derived.Test.YtbghdiaepdaaeaaGreatDoorTab
set_option maxRecDepth 100000
set_option maxHeartbeats 2000000
set_option linter.unusedVariables false
set_option linter.unusedSimpArgs false
namespace Go.Proofs
open Go Go.Ab
inductive af where
 | mk (ak:Int) (bl:Int) (aV:Bs) (WZ:Bool) (W3:List af) (aF:(Sl Bs))
def af.ak:af->Int|.mk x _ _ _ _ _=>x
def af.bl:af->Int|.mk _ x _ _ _ _=>x
def af.aV:af->Bs|.mk _ _ x _ _ _=>x
def af.av:af->(Sl af)|.mk _ _ _ nl l _=>⟨nl,l⟩
def af.aF:af->(Sl Bs)|.mk _ _ _ _ _ x=>x
noncomputable def af.Ge:af->D:=@af.rec (fun _=>D) (fun _=>List (List D)) (fun _ _ _ nl _ _ b=>.slice 5 none nl b) [] (fun v _ b f=>((bE .i64) v.ak++(bE .i64) v.bl++aM v.aV++[b]++(fun s=>[Sl.d 1 aM none s]) v.aF)::f)
noncomputable def af.c (v:af):List D:=(bE .i64) v.ak++(bE .i64) v.bl++aM v.aV++[v.Ge]++(fun s=>[Sl.d 1 aM none s]) v.aF
theorem af.di (v:af):v.Ge=Sl.d 5 af.c none v.av:=by
 cases v with
 | mk f g i nl l j =>
  show D.slice 5 none nl _=D.slice 5 none nl (l.map af.c)
  congr 1
  induction l with
  | nil=>rfl
  | cons a r b=>exact congrArg (af.c a::·) b
noncomputable def af.cu (v:af):List D:=(bE .i64) v.ak++(bE .i64) v.bl++aM v.aV++[Sl.d 5 af.c none v.av]++(fun s=>[Sl.d 1 aM none s]) v.aF
theorem af.gm (v:af):v.c=v.cu:=by unfold af.c af.cu; rw [af.di]
def af.zero:af:=.mk (0:Int) (0:Int) ([]:Bs) true [] (Sl.nil:Sl Bs)
structure ax where
 ai:Bs
 cB:af
noncomputable def ax.c (x:ax):List D:=aM x.ai++af.c x.cB
def ax.zero:ax:=⟨([]:Bs),af.zero⟩
structure aN where
 ai:Bs
 aG:(Sl ax)
noncomputable def aN.c (x:aN):List D:=[.str x.ai,Sl.d 6 ax.c none x.aG]
def aN.zero:aN:=⟨([]:Bs),(Sl.nil:Sl ax)⟩
structure aB where
 ai:Bs
 aX:(Sl Int)
noncomputable def aB.c (x:aB):List D:=[.str x.ai,Sl.d 1 (bE .i64) none x.aX]
def aB.zero:aB:=⟨([]:Bs),(Sl.nil:Sl Int)⟩
structure Z8 where
 ai:Bs
 aO:aB
 dO:Bool
 eE:af
 ct:(Sl aN)
noncomputable def Z8.c (x:Z8):List D:=aM x.ai++aB.c x.aO++tH x.dO++af.c x.eE++(fun s=>[Sl.d 2 aN.c none s]) x.ct
def Z8.zero:Z8:=⟨([]:Bs),aB.zero,false,af.zero,(Sl.nil:Sl aN)⟩
structure Z6 where
 ai:Bs
 aG:(Sl Z8)
 aO:aB
 ct:(Sl aN)
noncomputable def Z6.c (x:Z6):List D:=aM x.ai++(fun s=>[Sl.d 10 Z8.c none s]) x.aG++aB.c x.aO++(fun s=>[Sl.d 2 aN.c none s]) x.ct
def Z6.zero:Z6:=⟨([]:Bs),(Sl.nil:Sl Z8),aB.zero,(Sl.nil:Sl aN)⟩
structure Z9 where
 ai:Bs
 ct:(Sl aN)
noncomputable def Z9.c (x:Z9):List D:=[.str x.ai,Sl.d 2 aN.c none x.ct]
def Z9.zero:Z9:=⟨([]:Bs),(Sl.nil:Sl aN)⟩
structure az where
 ak:Int
 ai:Bs
 cw:(Sl Bs)
 ct:(Sl aN)
 br:(Sl Z6)
 cm:(Sl Z9)
 bP:(Sl Z8)
noncomputable def az.c (x:az):List D:=[.int .i64 x.ak,.str x.ai,Sl.d 1 aM none x.cw,Sl.d 2 aN.c none x.ct,Sl.d 5 Z6.c none x.br,Sl.d 2 Z9.c none x.cm,Sl.d 10 Z8.c none x.bP]
def az.zero:az:=⟨(0:Int),([]:Bs),(Sl.nil:Sl Bs),(Sl.nil:Sl aN),(Sl.nil:Sl Z6),(Sl.nil:Sl Z9),(Sl.nil:Sl Z8)⟩
structure ar where
 aD:(Sl az)
noncomputable def ar.c (x:ar):List D:=[Sl.d 7 az.c none x.aD]
inductive aj where
 | mk (bn:Bs) (bz:Bs) (ai:Bs) (aG:(Sl ax)) (aO:aB) (bZ:Bs) (bW:Int) (W4:Bool) (W5:List aj)
def aj.bn:aj->Bs|.mk x _ _ _ _ _ _ _ _=>x
def aj.bz:aj->Bs|.mk _ x _ _ _ _ _ _ _=>x
def aj.ai:aj->Bs|.mk _ _ x _ _ _ _ _ _=>x
def aj.aG:aj->(Sl ax)|.mk _ _ _ x _ _ _ _ _=>x
def aj.aO:aj->aB|.mk _ _ _ _ x _ _ _ _=>x
def aj.bZ:aj->Bs|.mk _ _ _ _ _ x _ _ _=>x
def aj.bW:aj->Int|.mk _ _ _ _ _ _ x _ _=>x
def aj.aK:aj->(Sl aj)|.mk _ _ _ _ _ _ _ nl l=>⟨nl,l⟩
noncomputable def aj.Gf:aj->D:=@aj.rec (fun _=>D) (fun _=>List (List D)) (fun _ _ _ _ _ _ _ nl _ b=>.slice 9 none nl b) [] (fun v _ b f=>(aM v.bn++aM v.bz++aM v.ai++(fun s=>[Sl.d 6 ax.c none s]) v.aG++aB.c v.aO++aM v.bZ++(bE .i64) v.bW++[b])::f)
noncomputable def aj.c (v:aj):List D:=aM v.bn++aM v.bz++aM v.ai++(fun s=>[Sl.d 6 ax.c none s]) v.aG++aB.c v.aO++aM v.bZ++(bE .i64) v.bW++[v.Gf]
theorem aj.gp (v:aj):v.Gf=Sl.d 9 aj.c none v.aK:=by
 cases v with
 | mk f g i j k m o nl l =>
  show D.slice 9 none nl _=D.slice 9 none nl (l.map aj.c)
  congr 1
  induction l with
  | nil=>rfl
  | cons a r b=>exact congrArg (aj.c a::·) b
noncomputable def aj.cu (v:aj):List D:=aM v.bn++aM v.bz++aM v.ai++(fun s=>[Sl.d 6 ax.c none s]) v.aG++aB.c v.aO++aM v.bZ++(bE .i64) v.bW++[Sl.d 9 aj.c none v.aK]
theorem aj.gm (v:aj):v.c=v.cu:=by unfold aj.c aj.cu; rw [aj.gp]
def aj.zero:aj:=.mk ([]:Bs) ([]:Bs) ([]:Bs) (Sl.nil:Sl ax) aB.zero ([]:Bs) (0:Int) true []
structure bU where
 ak:Int
 aK:(Sl aj)
noncomputable def bU.c (x:bU):List D:=[.int .i64 x.ak,Sl.d 9 aj.c none x.aK]
structure ig where
 ai:Bs
 aO:aB
 dO:Bool
 eE:af
noncomputable def ig.c (x:ig):List D:=aM x.ai++aB.c x.aO++tH x.dO++af.c x.eE
inductive aY where
 | mk (ak:Int) (gq:Bs) (ai:Bs) (bz:Bs) (aG:(Sl ax)) (ct:(Sl aN)) (W6:Bool) (W7:List aY)
def aY.ak:aY->Int|.mk x _ _ _ _ _ _ _=>x
def aY.gq:aY->Bs|.mk _ x _ _ _ _ _ _=>x
def aY.ai:aY->Bs|.mk _ _ x _ _ _ _ _=>x
def aY.bz:aY->Bs|.mk _ _ _ x _ _ _ _=>x
def aY.aG:aY->(Sl ax)|.mk _ _ _ _ x _ _ _=>x
def aY.ct:aY->(Sl aN)|.mk _ _ _ _ _ x _ _=>x
def aY.fL:aY->(Sl aY)|.mk _ _ _ _ _ _ nl l=>⟨nl,l⟩
noncomputable def aY.Gg:aY->D:=@aY.rec (fun _=>D) (fun _=>List (List D)) (fun _ _ _ _ _ _ nl _ b=>.slice 7 none nl b) [] (fun v _ b f=>((bE .i64) v.ak++aM v.gq++aM v.ai++aM v.bz++(fun s=>[Sl.d 6 ax.c none s]) v.aG++(fun s=>[Sl.d 2 aN.c none s]) v.ct++[b])::f)
noncomputable def aY.c (v:aY):List D:=(bE .i64) v.ak++aM v.gq++aM v.ai++aM v.bz++(fun s=>[Sl.d 6 ax.c none s]) v.aG++(fun s=>[Sl.d 2 aN.c none s]) v.ct++[v.Gg]
theorem aY.vR (v:aY):v.Gg=Sl.d 7 aY.c none v.fL:=by
 cases v with
 | mk f g i j k m nl l =>
  show D.slice 7 none nl _=D.slice 7 none nl (l.map aY.c)
  congr 1
  induction l with
  | nil=>rfl
  | cons a r b=>exact congrArg (aY.c a::·) b
noncomputable def aY.cu (v:aY):List D:=(bE .i64) v.ak++aM v.gq++aM v.ai++aM v.bz++(fun s=>[Sl.d 6 ax.c none s]) v.aG++(fun s=>[Sl.d 2 aN.c none s]) v.ct++[Sl.d 7 aY.c none v.fL]
theorem aY.gm (v:aY):v.c=v.cu:=by unfold aY.c aY.cu; rw [aY.vR]
def aY.zero:aY:=.mk (0:Int) ([]:Bs) ([]:Bs) ([]:Bs) (Sl.nil:Sl ax) (Sl.nil:Sl aN) true []
structure fV where
 ak:Int
 ai:Bs
 zH:(Sl ig)
 fL:(Sl aY)
noncomputable def fV.c (x:fV):List D:=[.int .i64 x.ak,.str x.ai,Sl.d 9 ig.c none x.zH,Sl.d 7 aY.c none x.fL]
structure Z7 where
 ai:Bs
 bz:Bs
 fL:(Sl aY)
noncomputable def Z7.c (x:Z7):List D:=[.str x.ai,.str x.bz,Sl.d 7 aY.c none x.fL]
structure dK where
 iO:(Sl fV)
 mA:(Sl Z7)
noncomputable def dK.c (x:dK):List D:=[Sl.d 4 fV.c none x.iO,Sl.d 3 Z7.c none x.mA]
def dK.zero:dK:=⟨(Sl.nil:Sl fV),(Sl.nil:Sl Z7)⟩
structure Z5 where
 Ow:Int
 Ox:Bs
def Z5.c (x:Z5):List D:=[.int .i64 x.Ow,.str x.Ox]
structure Z3 where
 Fd:ar
 Fq:dK
 en:af
 Fn:Int
noncomputable def Z3.c (x:Z3):List D:=ar.c x.Fd++dK.c x.Fq++af.c x.en++(bE .i64) x.Fn
structure Z1 where
 bS:aY
 bZ:Bs
noncomputable def Z1.c (x:Z1):List D:=aY.c x.bS++aM x.bZ
structure Z2 where
 bn:Bs
 jJ:(Sl Z1)
noncomputable def Z2.c (x:Z2):List D:=[.str x.bn,Sl.d 8 Z1.c none x.jJ]
structure Z4 where
 Fd:ar
 en:af
 fC:Bool
 eW:Int
 dz:Int
noncomputable def Z4.c (x:Z4):List D:=ar.c x.Fd++af.c x.en++tH x.fC++(bE .i64) x.eW++(bE .i64) x.dz
structure Z0 where
 Fd:ar
 en:af
 Oy:Bool
 Oz:Int
noncomputable def Z0.c (x:Z0):List D:=ar.c x.Fd++af.c x.en++tH x.Oy++(bE .i64) x.Oz
end Go.Proofs
namespace Go.Proofs
open Go Go.Ab Go.RowKit
section
variable {H:Type}{B:DataW H->Nat}(hB:tL B)
noncomputable def af.sz:af->Nat:=@af.rec (fun _=>Nat) (fun _=>Nat) (fun f g i nl l j b=>(fun _=>1) f+((fun _=>1) g+(Bs.sz i+((1+b)+((Sl.sz Bs.sz) j+(0)))))) 0 (fun _ _ b k=>b+k)
noncomputable def af.tM:List af->Nat:=@af.rec_1 (fun _=>Nat) (fun _=>Nat) (fun f g i nl l j b=>(fun _=>1) f+((fun _=>1) g+(Bs.sz i+((1+b)+((Sl.sz Bs.sz) j+(0)))))) 0 (fun _ _ b k=>b+k)
theorem af.zI (l:List af):af.tM l=(l.map af.sz).sum:=by
 induction l with
 | nil=>rfl
 | cons a r b=>exact congrArg (af.sz a+·) b
theorem af.tN (x:af):x.sz=(fun _=>1) x.ak+((fun _=>1) x.bl+(Bs.sz x.aV+((Sl.sz af.sz) x.av+((Sl.sz Bs.sz) x.aF+(0))))):=by
 cases x with
 | mk b f g nl l i =>
  show (fun _=>1) b+((fun _=>1) f+(Bs.sz g+((1+af.tM l)+((Sl.sz Bs.sz) i+(0)))))=_;rw [af.zI]; rfl
def af.wf:af->Prop:=@af.rec (fun _=>Prop) (fun _=>Prop) (fun f g i nl l j b=>i64 f/\(i64 g/\((fun _=>True) i/\(((nl=true->l=[])/\l.length<=cF/\b)/\((Sl.wf (fun _=>True)) j/\(True)))))) True (fun _ _ b k=>b/\k)
def af.pR:List af->Prop:=@af.rec_1 (fun _=>Prop) (fun _=>Prop) (fun f g i nl l j b=>i64 f/\(i64 g/\((fun _=>True) i/\(((nl=true->l=[])/\l.length<=cF/\b)/\((Sl.wf (fun _=>True)) j/\(True)))))) True (fun _ _ b k=>b/\k)
theorem af.zJ (l:List af):af.pR l↔∀x∈l,af.wf x:=by
 induction l with
 | nil=>exact⟨fun _ _ h=>(by cases h),fun _=>trivial⟩
 | cons a r b =>
  show (af.wf a/\af.pR r)↔_;rw [b]; simp
theorem af.jK (x:af):x.wf↔i64 x.ak/\(i64 x.bl/\((fun _=>True) x.aV/\((Sl.wf af.wf) x.av/\((Sl.wf (fun _=>True)) x.aF/\(True))))):=by
 cases x with
 | mk b f g nl l i =>
  show (i64 b/\(i64 f/\((fun _=>True) g/\(((nl=true->l=[])/\l.length<=cF/\af.pR l)/\((Sl.wf (fun _=>True)) i/\(True))))))↔_;rw [af.zJ]; exact Iff.rfl
include hB in
theorem Gh:∀N,de Tryz.prog B N 58 af.c af.sz af.wf:=by
 have key:∀N M,M<=N->de Tryz.prog B M 58 af.c af.sz af.wf:=by
  intro N;induction N with
  | zero=>intro M f; rw [Nat.le_zero.1 f]; exact .zero
  | succ N g =>
   intro M f;cases M with
   | zero=>exact .zero
   | succ b =>
    have hit:de Tryz.prog B b 55 (fun s:Sl af=>[Sl.d 5 af.c none s]) (Sl.sz af.sz) (Sl.wf af.wf):=by
     cases b with
     | zero=>exact .zero
     | succ M=>exact dA.zG hB (Tryz.bq 55 _ rfl) rfl (Tryz.bq 58 _ rfl) rfl (by decide) (fun _=>rfl) (g M (by omega))
    refine de.struct hB (Tryz.bq 58 _ rfl) rfl (cI.cons (n:=5) (o:=0) (o':=1) (Tryz.bq 3 _ rfl) rfl ((dA.int hB (Tryz.bq 3 _ rfl) rfl) b) (cI.cons (n:=5) (o:=1) (o':=2) (Tryz.bq 3 _ rfl) rfl ((dA.int hB (Tryz.bq 3 _ rfl) rfl) b) (cI.cons (n:=5) (o:=2) (o':=3) (Tryz.bq 9 _ rfl) rfl ((dA.str hB (Tryz.bq 9 _ rfl) rfl) b) (cI.cons (n:=5) (o:=3) (o':=4) (Tryz.bq 55 _ rfl) rfl hit (cI.cons (n:=5) (o:=4) (o':=5) (Tryz.bq 56 _ rfl) rfl ((dA.slice hB (Tryz.bq 56 _ rfl) rfl (Tryz.bq 9 _ rfl) rfl (by decide) (fun _=>rfl) (dA.str hB (Tryz.bq 9 _ rfl) rfl)) b) (cI.nil (n:=5))))))) (fun a=>af.mk a.1 a.2.1 a.2.2.1 a.2.2.2.1.nl a.2.2.2.1.l a.2.2.2.2.1) (fun a=>?_) (fun a=>by rw [af.tN]; exact Nat.le_refl _) (fun a h=>by rw [af.jK]; exact h)
    unfold af.c;rw [af.di];rfl
 exact fun N=>key N N (Nat.le_refl _)
noncomputable def ax.sz (x:ax):Nat:=Bs.sz x.ai+(af.sz x.cB+(0))
def ax.wf (x:ax):Prop:=(fun _=>True) x.ai/\(af.wf x.cB/\(True))
include hB in
theorem Gi:∀N,de Tryz.prog B N 78 ax.c ax.sz ax.wf:=mz.struct hB (Tryz.bq 78 _ rfl) rfl (fun b=>(cI.cons (n:=6) (o:=0) (o':=1) (Tryz.bq 9 _ rfl) rfl ((dA.str hB (Tryz.bq 9 _ rfl) rfl) b) (cI.cons (n:=6) (o:=1) (o':=6) (Tryz.bq 58 _ rfl) rfl ((Gh hB) b) (cI.nil (n:=6))))) (fun a=>(⟨a.1,a.2.1⟩:ax)) (fun _=>rfl) (fun _=>Nat.le_refl _) (fun _ h=>h)
noncomputable def aN.sz (x:aN):Nat:=Bs.sz x.ai+((Sl.sz ax.sz) x.aG+(0))
def aN.wf (x:aN):Prop:=(fun _=>True) x.ai/\((Sl.wf ax.wf) x.aG/\(True))
include hB in
theorem vS:∀N,de Tryz.prog B N 97 aN.c aN.sz aN.wf:=mz.struct hB (Tryz.bq 97 _ rfl) rfl (fun b=>(cI.cons (n:=2) (o:=0) (o':=1) (Tryz.bq 9 _ rfl) rfl ((dA.str hB (Tryz.bq 9 _ rfl) rfl) b) (cI.cons (n:=2) (o:=1) (o':=2) (Tryz.bq 47 _ rfl) rfl ((dA.slice hB (Tryz.bq 47 _ rfl) rfl (Tryz.bq 78 _ rfl) rfl (by decide) (fun _=>rfl) (Gi hB)) b) (cI.nil (n:=2))))) (fun a=>(⟨a.1,a.2.1⟩:aN)) (fun _=>rfl) (fun _=>Nat.le_refl _) (fun _ h=>h)
noncomputable def aB.sz (x:aB):Nat:=Bs.sz x.ai+((Sl.sz (fun _=>1)) x.aX+(0))
def aB.wf (x:aB):Prop:=(fun _=>True) x.ai/\((Sl.wf i64) x.aX/\(True))
include hB in
theorem zK:∀N,de Tryz.prog B N 50 aB.c aB.sz aB.wf:=mz.struct hB (Tryz.bq 50 _ rfl) rfl (fun b=>(cI.cons (n:=2) (o:=0) (o':=1) (Tryz.bq 9 _ rfl) rfl ((dA.str hB (Tryz.bq 9 _ rfl) rfl) b) (cI.cons (n:=2) (o:=1) (o':=2) (Tryz.bq 48 _ rfl) rfl ((dA.slice hB (Tryz.bq 48 _ rfl) rfl (Tryz.bq 3 _ rfl) rfl (by decide) (fun _=>rfl) (dA.int hB (Tryz.bq 3 _ rfl) rfl)) b) (cI.nil (n:=2))))) (fun a=>(⟨a.1,a.2.1⟩:aB)) (fun _=>rfl) (fun _=>Nat.le_refl _) (fun _ h=>h)
noncomputable def Z8.sz (x:Z8):Nat:=Bs.sz x.ai+(aB.sz x.aO+((fun _=>1) x.dO+(af.sz x.eE+((Sl.sz aN.sz) x.ct+(0)))))
def Z8.wf (x:Z8):Prop:=(fun _=>True) x.ai/\(aB.wf x.aO/\((fun _=>True) x.dO/\(af.wf x.eE/\((Sl.wf aN.wf) x.ct/\(True)))))
include hB in
theorem Gj:∀N,de Tryz.prog B N 148 Z8.c Z8.sz Z8.wf:=mz.struct hB (Tryz.bq 148 _ rfl) rfl (fun b=>(cI.cons (n:=10) (o:=0) (o':=1) (Tryz.bq 9 _ rfl) rfl ((dA.str hB (Tryz.bq 9 _ rfl) rfl) b) (cI.cons (n:=10) (o:=1) (o':=3) (Tryz.bq 50 _ rfl) rfl ((zK hB) b) (cI.cons (n:=10) (o:=3) (o':=4) (Tryz.bq 4 _ rfl) rfl ((dA.bool hB (Tryz.bq 4 _ rfl) rfl) b) (cI.cons (n:=10) (o:=4) (o':=9) (Tryz.bq 58 _ rfl) rfl ((Gh hB) b) (cI.cons (n:=10) (o:=9) (o':=10) (Tryz.bq 63 _ rfl) rfl ((dA.slice hB (Tryz.bq 63 _ rfl) rfl (Tryz.bq 97 _ rfl) rfl (by decide) (fun _=>rfl) (vS hB)) b) (cI.nil (n:=10)))))))) (fun a=>(⟨a.1,a.2.1,a.2.2.1,a.2.2.2.1,a.2.2.2.2.1⟩:Z8)) (fun _=>rfl) (fun _=>Nat.le_refl _) (fun _ h=>h)
noncomputable def Z6.sz (x:Z6):Nat:=Bs.sz x.ai+((Sl.sz Z8.sz) x.aG+(aB.sz x.aO+((Sl.sz aN.sz) x.ct+(0))))
def Z6.wf (x:Z6):Prop:=(fun _=>True) x.ai/\((Sl.wf Z8.wf) x.aG/\(aB.wf x.aO/\((Sl.wf aN.wf) x.ct/\(True))))
include hB in
theorem OA:∀N,de Tryz.prog B N 104 Z6.c Z6.sz Z6.wf:=mz.struct hB (Tryz.bq 104 _ rfl) rfl (fun b=>(cI.cons (n:=5) (o:=0) (o':=1) (Tryz.bq 9 _ rfl) rfl ((dA.str hB (Tryz.bq 9 _ rfl) rfl) b) (cI.cons (n:=5) (o:=1) (o':=2) (Tryz.bq 66 _ rfl) rfl ((dA.slice hB (Tryz.bq 66 _ rfl) rfl (Tryz.bq 148 _ rfl) rfl (by decide) (fun _=>rfl) (Gj hB)) b) (cI.cons (n:=5) (o:=2) (o':=4) (Tryz.bq 50 _ rfl) rfl ((zK hB) b) (cI.cons (n:=5) (o:=4) (o':=5) (Tryz.bq 63 _ rfl) rfl ((dA.slice hB (Tryz.bq 63 _ rfl) rfl (Tryz.bq 97 _ rfl) rfl (by decide) (fun _=>rfl) (vS hB)) b) (cI.nil (n:=5))))))) (fun a=>(⟨a.1,a.2.1,a.2.2.1,a.2.2.2.1⟩:Z6)) (fun _=>rfl) (fun _=>Nat.le_refl _) (fun _ h=>h)
noncomputable def Z9.sz (x:Z9):Nat:=Bs.sz x.ai+((Sl.sz aN.sz) x.ct+(0))
def Z9.wf (x:Z9):Prop:=(fun _=>True) x.ai/\((Sl.wf aN.wf) x.ct/\(True))
include hB in
theorem OB:∀N,de Tryz.prog B N 106 Z9.c Z9.sz Z9.wf:=mz.struct hB (Tryz.bq 106 _ rfl) rfl (fun b=>(cI.cons (n:=2) (o:=0) (o':=1) (Tryz.bq 9 _ rfl) rfl ((dA.str hB (Tryz.bq 9 _ rfl) rfl) b) (cI.cons (n:=2) (o:=1) (o':=2) (Tryz.bq 63 _ rfl) rfl ((dA.slice hB (Tryz.bq 63 _ rfl) rfl (Tryz.bq 97 _ rfl) rfl (by decide) (fun _=>rfl) (vS hB)) b) (cI.nil (n:=2))))) (fun a=>(⟨a.1,a.2.1⟩:Z9)) (fun _=>rfl) (fun _=>Nat.le_refl _) (fun _ h=>h)
noncomputable def az.sz (x:az):Nat:=(fun _=>1) x.ak+(Bs.sz x.ai+((Sl.sz Bs.sz) x.cw+((Sl.sz aN.sz) x.ct+((Sl.sz Z6.sz) x.br+((Sl.sz Z9.sz) x.cm+((Sl.sz Z8.sz) x.bP+(0)))))))
def az.wf (x:az):Prop:=i64 x.ak/\((fun _=>True) x.ai/\((Sl.wf (fun _=>True)) x.cw/\((Sl.wf aN.wf) x.ct/\((Sl.wf Z6.wf) x.br/\((Sl.wf Z9.wf) x.cm/\((Sl.wf Z8.wf) x.bP/\(True)))))))
include hB in
theorem OC:∀N,de Tryz.prog B N 68 az.c az.sz az.wf:=mz.struct hB (Tryz.bq 68 _ rfl) rfl (fun b=>(cI.cons (n:=7) (o:=0) (o':=1) (Tryz.bq 3 _ rfl) rfl ((dA.int hB (Tryz.bq 3 _ rfl) rfl) b) (cI.cons (n:=7) (o:=1) (o':=2) (Tryz.bq 9 _ rfl) rfl ((dA.str hB (Tryz.bq 9 _ rfl) rfl) b) (cI.cons (n:=7) (o:=2) (o':=3) (Tryz.bq 56 _ rfl) rfl ((dA.slice hB (Tryz.bq 56 _ rfl) rfl (Tryz.bq 9 _ rfl) rfl (by decide) (fun _=>rfl) (dA.str hB (Tryz.bq 9 _ rfl) rfl)) b) (cI.cons (n:=7) (o:=3) (o':=4) (Tryz.bq 63 _ rfl) rfl ((dA.slice hB (Tryz.bq 63 _ rfl) rfl (Tryz.bq 97 _ rfl) rfl (by decide) (fun _=>rfl) (vS hB)) b) (cI.cons (n:=7) (o:=4) (o':=5) (Tryz.bq 64 _ rfl) rfl ((dA.slice hB (Tryz.bq 64 _ rfl) rfl (Tryz.bq 104 _ rfl) rfl (by decide) (fun _=>rfl) (OA hB)) b) (cI.cons (n:=7) (o:=5) (o':=6) (Tryz.bq 65 _ rfl) rfl ((dA.slice hB (Tryz.bq 65 _ rfl) rfl (Tryz.bq 106 _ rfl) rfl (by decide) (fun _=>rfl) (OB hB)) b) (cI.cons (n:=7) (o:=6) (o':=7) (Tryz.bq 66 _ rfl) rfl ((dA.slice hB (Tryz.bq 66 _ rfl) rfl (Tryz.bq 148 _ rfl) rfl (by decide) (fun _=>rfl) (Gj hB)) b) (cI.nil (n:=7)))))))))) (fun a=>(⟨a.1,a.2.1,a.2.2.1,a.2.2.2.1,a.2.2.2.2.1,a.2.2.2.2.2.1,a.2.2.2.2.2.2.1⟩:az)) (fun _=>rfl) (fun _=>Nat.le_refl _) (fun _ h=>h)
noncomputable def ar.sz (x:ar):Nat:=(Sl.sz az.sz) x.aD+(0)
def ar.wf (x:ar):Prop:=(Sl.wf az.wf) x.aD/\(True)
include hB in
theorem OD:∀N,de Tryz.prog B N 24 ar.c ar.sz ar.wf:=mz.struct hB (Tryz.bq 24 _ rfl) rfl (fun b=>(cI.cons (n:=1) (o:=0) (o':=1) (Tryz.bq 22 _ rfl) rfl ((dA.slice hB (Tryz.bq 22 _ rfl) rfl (Tryz.bq 68 _ rfl) rfl (by decide) (fun _=>rfl) (OC hB)) b) (cI.nil (n:=1)))) (fun a=>(⟨a.1⟩:ar)) (fun _=>rfl) (fun _=>Nat.le_refl _) (fun _ h=>h)
noncomputable def aj.sz:aj->Nat:=@aj.rec (fun _=>Nat) (fun _=>Nat) (fun f g i j k m o nl l b=>Bs.sz f+(Bs.sz g+(Bs.sz i+((Sl.sz ax.sz) j+(aB.sz k+(Bs.sz m+((fun _=>1) o+((1+b)+(0))))))))) 0 (fun _ _ b p=>b+p)
noncomputable def aj.tM:List aj->Nat:=@aj.rec_1 (fun _=>Nat) (fun _=>Nat) (fun f g i j k m o nl l b=>Bs.sz f+(Bs.sz g+(Bs.sz i+((Sl.sz ax.sz) j+(aB.sz k+(Bs.sz m+((fun _=>1) o+((1+b)+(0))))))))) 0 (fun _ _ b p=>b+p)
theorem aj.zI (l:List aj):aj.tM l=(l.map aj.sz).sum:=by
 induction l with
 | nil=>rfl
 | cons a r b=>exact congrArg (aj.sz a+·) b
theorem aj.tN (x:aj):x.sz=Bs.sz x.bn+(Bs.sz x.bz+(Bs.sz x.ai+((Sl.sz ax.sz) x.aG+(aB.sz x.aO+(Bs.sz x.bZ+((fun _=>1) x.bW+((Sl.sz aj.sz) x.aK+(0)))))))):=by
 cases x with
 | mk b f g i j k m nl l =>
  show Bs.sz b+(Bs.sz f+(Bs.sz g+((Sl.sz ax.sz) i+(aB.sz j+(Bs.sz k+((fun _=>1) m+((1+aj.tM l)+(0))))))))=_;rw [aj.zI]; rfl
def aj.wf:aj->Prop:=@aj.rec (fun _=>Prop) (fun _=>Prop) (fun f g i j k m o nl l b=>(fun _=>True) f/\((fun _=>True) g/\((fun _=>True) i/\((Sl.wf ax.wf) j/\(aB.wf k/\((fun _=>True) m/\(i64 o/\(((nl=true->l=[])/\l.length<=cF/\b)/\(True))))))))) True (fun _ _ b p=>b/\p)
def aj.pR:List aj->Prop:=@aj.rec_1 (fun _=>Prop) (fun _=>Prop) (fun f g i j k m o nl l b=>(fun _=>True) f/\((fun _=>True) g/\((fun _=>True) i/\((Sl.wf ax.wf) j/\(aB.wf k/\((fun _=>True) m/\(i64 o/\(((nl=true->l=[])/\l.length<=cF/\b)/\(True))))))))) True (fun _ _ b p=>b/\p)
theorem aj.zJ (l:List aj):aj.pR l↔∀x∈l,aj.wf x:=by
 induction l with
 | nil=>exact⟨fun _ _ h=>(by cases h),fun _=>trivial⟩
 | cons a r b =>
  show (aj.wf a/\aj.pR r)↔_;rw [b]; simp
theorem aj.jK (x:aj):x.wf↔(fun _=>True) x.bn/\((fun _=>True) x.bz/\((fun _=>True) x.ai/\((Sl.wf ax.wf) x.aG/\(aB.wf x.aO/\((fun _=>True) x.bZ/\(i64 x.bW/\((Sl.wf aj.wf) x.aK/\(True)))))))):=by
 cases x with
 | mk b f g i j k m nl l =>
  show ((fun _=>True) b/\((fun _=>True) f/\((fun _=>True) g/\((Sl.wf ax.wf) i/\(aB.wf j/\((fun _=>True) k/\(i64 m/\(((nl=true->l=[])/\l.length<=cF/\aj.pR l)/\(True)))))))))↔_;rw [aj.zJ]; exact Iff.rfl
include hB in
theorem OE:∀N,de Tryz.prog B N 52 aj.c aj.sz aj.wf:=by
 have key:∀N M,M<=N->de Tryz.prog B M 52 aj.c aj.sz aj.wf:=by
  intro N;induction N with
  | zero=>intro M f; rw [Nat.le_zero.1 f]; exact .zero
  | succ N g =>
   intro M f;cases M with
   | zero=>exact .zero
   | succ b =>
    have hit:de Tryz.prog B b 25 (fun s:Sl aj=>[Sl.d 9 aj.c none s]) (Sl.sz aj.sz) (Sl.wf aj.wf):=by
     cases b with
     | zero=>exact .zero
     | succ M=>exact dA.zG hB (Tryz.bq 25 _ rfl) rfl (Tryz.bq 52 _ rfl) rfl (by decide) (fun _=>rfl) (g M (by omega))
    refine de.struct hB (Tryz.bq 52 _ rfl) rfl (cI.cons (n:=9) (o:=0) (o':=1) (Tryz.bq 9 _ rfl) rfl ((dA.str hB (Tryz.bq 9 _ rfl) rfl) b) (cI.cons (n:=9) (o:=1) (o':=2) (Tryz.bq 9 _ rfl) rfl ((dA.str hB (Tryz.bq 9 _ rfl) rfl) b) (cI.cons (n:=9) (o:=2) (o':=3) (Tryz.bq 9 _ rfl) rfl ((dA.str hB (Tryz.bq 9 _ rfl) rfl) b) (cI.cons (n:=9) (o:=3) (o':=4) (Tryz.bq 47 _ rfl) rfl ((dA.slice hB (Tryz.bq 47 _ rfl) rfl (Tryz.bq 78 _ rfl) rfl (by decide) (fun _=>rfl) (Gi hB)) b) (cI.cons (n:=9) (o:=4) (o':=6) (Tryz.bq 50 _ rfl) rfl ((zK hB) b) (cI.cons (n:=9) (o:=6) (o':=7) (Tryz.bq 9 _ rfl) rfl ((dA.str hB (Tryz.bq 9 _ rfl) rfl) b) (cI.cons (n:=9) (o:=7) (o':=8) (Tryz.bq 3 _ rfl) rfl ((dA.int hB (Tryz.bq 3 _ rfl) rfl) b) (cI.cons (n:=9) (o:=8) (o':=9) (Tryz.bq 25 _ rfl) rfl hit (cI.nil (n:=9)))))))))) (fun a=>aj.mk a.1 a.2.1 a.2.2.1 a.2.2.2.1 a.2.2.2.2.1 a.2.2.2.2.2.1 a.2.2.2.2.2.2.1 a.2.2.2.2.2.2.2.1.nl a.2.2.2.2.2.2.2.1.l) (fun a=>?_) (fun a=>by rw [aj.tN]; exact Nat.le_refl _) (fun a h=>by rw [aj.jK]; exact h)
    unfold aj.c;rw [aj.gp];rfl
 exact fun N=>key N N (Nat.le_refl _)
noncomputable def bU.sz (x:bU):Nat:=(fun _=>1) x.ak+((Sl.sz aj.sz) x.aK+(0))
def bU.wf (x:bU):Prop:=i64 x.ak/\((Sl.wf aj.wf) x.aK/\(True))
include hB in
theorem Gk:∀N,de Tryz.prog B N 27 bU.c bU.sz bU.wf:=mz.struct hB (Tryz.bq 27 _ rfl) rfl (fun b=>(cI.cons (n:=2) (o:=0) (o':=1) (Tryz.bq 3 _ rfl) rfl ((dA.int hB (Tryz.bq 3 _ rfl) rfl) b) (cI.cons (n:=2) (o:=1) (o':=2) (Tryz.bq 25 _ rfl) rfl ((dA.slice hB (Tryz.bq 25 _ rfl) rfl (Tryz.bq 52 _ rfl) rfl (by decide) (fun _=>rfl) (OE hB)) b) (cI.nil (n:=2))))) (fun a=>(⟨a.1,a.2.1⟩:bU)) (fun _=>rfl) (fun _=>Nat.le_refl _) (fun _ h=>h)
end
theorem af.bI (x:af):x.sz=0+1+1+Bs.sz x.aV+(Sl.sz af.sz) x.av+(Sl.sz Bs.sz) x.aF:=by
 rw [af.tN]; try dsimp only
 omega
theorem af.pos (x:af):1<=x.sz:=by
 rw [af.bI]; have:=Bs.gH x.aV; omega
theorem af.OF {x:af}(h:x.wf):i64 x.bl:=((af.jK x).1 h).2.1
theorem af.OG {x:af}(h:x.wf):(Sl.wf af.wf) x.av:=((af.jK x).1 h).2.2.2.1
theorem af.OH {x:af}(h:x.wf):(Sl.wf (fun _=>True)) x.aF:=((af.jK x).1 h).2.2.2.2.1
theorem ax.bI (x:ax):x.sz=0+Bs.sz x.ai+af.sz x.cB:=by
 unfold ax.sz; try dsimp only
 omega
theorem ax.pos (x:ax):1<=x.sz:=by
 rw [ax.bI]; have:=Bs.gH x.ai; omega
theorem ax.zL {x:ax}(h:x.wf):af.wf x.cB:=h.2.1
theorem aN.bI (x:aN):x.sz=0+Bs.sz x.ai+(Sl.sz ax.sz) x.aG:=by
 unfold aN.sz; try dsimp only
 omega
theorem aB.bI (x:aB):x.sz=0+Bs.sz x.ai+(Sl.sz (fun _=>1)) x.aX:=by
 unfold aB.sz; try dsimp only
 omega
theorem Z8.bI (x:Z8):x.sz=0+Bs.sz x.ai+aB.sz x.aO+1+af.sz x.eE+(Sl.sz aN.sz) x.ct:=by
 unfold Z8.sz; try dsimp only
 omega
theorem Z8.pos (x:Z8):1<=x.sz:=by
 rw [Z8.bI]; have:=Bs.gH x.ai; omega
theorem Z6.bI (x:Z6):x.sz=0+Bs.sz x.ai+(Sl.sz Z8.sz) x.aG+aB.sz x.aO+(Sl.sz aN.sz) x.ct:=by
 unfold Z6.sz; try dsimp only
 omega
theorem Z9.bI (x:Z9):x.sz=0+Bs.sz x.ai+(Sl.sz aN.sz) x.ct:=by
 unfold Z9.sz; try dsimp only
 omega
theorem Z9.pos (x:Z9):1<=x.sz:=by
 rw [Z9.bI]; have:=Bs.gH x.ai; omega
theorem az.bI (x:az):x.sz=0+1+Bs.sz x.ai+(Sl.sz Bs.sz) x.cw+(Sl.sz aN.sz) x.ct+(Sl.sz Z6.sz) x.br+(Sl.sz Z9.sz) x.cm+(Sl.sz Z8.sz) x.bP:=by
 unfold az.sz; try dsimp only
 omega
theorem az.pos (x:az):1<=x.sz:=by
 rw [az.bI]; have:=Bs.gH x.ai; omega
theorem ar.bI (x:ar):x.sz=0+(Sl.sz az.sz) x.aD:=by
 unfold ar.sz; try dsimp only
 omega
theorem aj.bI (x:aj):x.sz=0+Bs.sz x.bn+Bs.sz x.bz+Bs.sz x.ai+(Sl.sz ax.sz) x.aG+aB.sz x.aO+Bs.sz x.bZ+1+(Sl.sz aj.sz) x.aK:=by
 rw [aj.tN]; try dsimp only
 omega
theorem aj.pos (x:aj):1<=x.sz:=by
 rw [aj.bI]; have:=Bs.gH x.bn; omega
theorem aj.vU {x:aj}(h:x.wf):(Sl.wf ax.wf) x.aG:=((aj.jK x).1 h).2.2.2.1
theorem aj.rf {x:aj}(h:x.wf):i64 x.bW:=((aj.jK x).1 h).2.2.2.2.2.2.1
theorem aj.pS {x:aj}(h:x.wf):(Sl.wf aj.wf) x.aK:=((aj.jK x).1 h).2.2.2.2.2.2.2.1
theorem bU.bI (x:bU):x.sz=0+1+(Sl.sz aj.sz) x.aK:=by
 unfold bU.sz; try dsimp only
 omega
theorem bU.OI {x:bU}(h:x.wf):i64 x.ak:=h.1
theorem bU.pS {x:bU}(h:x.wf):(Sl.wf aj.wf) x.aK:=h.2.1
end Go.Proofs
namespace Go.Proofs
open Go Go.Ab
open aS aq ah aU dV
variable {an:bf}
def mB (f:Int):List Bs->Int->Option (Int)
 | [],b=>some b
 | g::i,b=>bif (decide (b<=f)) then((bY b (1:Int)).bind fun j=>on (g) fun k=>(bY j ((k.length:Nat):Int)).bind fun l=>mB f (i) l) else(some b)
def lG (f:Int) (g:af->Int->Option Int):List af->Int->Option (Int)
 | [],b=>some b
 | i::j,b=>bif (decide (b<=f)) then(on (i) fun k=>(g k f).bind fun l=>(bY b l).bind fun m=>lG f g (j) m) else(some b)
def jL:Nat->af->Int->Option Int
 | 0,_,_=>none
 | n+1,b,f=>(bY (1:Int) ((b.aV.length:Nat):Int)).bind fun g=>Option.bind (mB f b.aF.l g) fun i=>on (i) fun j=>Option.bind (lG f (jL n) b.av.l j) fun k=>on (k) fun m=>some m
def zM (n:Nat):Prop:=∀{a0:af}{a1:Int}   {r:Int},jL n a0 a1=some r->∀(H:ag),AC Tryz.prog 57 [.agg (af.c a0),.d (.int .i64 a1)] H fun v h'=>v=.a (.d (.int .i64 r))/\h'=H
theorem OJ (n:Nat) (I:zM (an:=an) n):zM (an:=an) (n+1):=by
 intro g j   r b H;rw [jL] at b;refine AC.oW 55 [.tmp 4] Tryz.call57 Tryz.func57 ?_;refine aa (S BX (S As (nil ?_)));refine aa (S Fv (S Ld ?_));refine kE (TK rfl) rfl rfl rfl rfl fun au=>?_;obtain⟨J,K,b⟩:=qT rfl b;refine s0 (dc rfl rfl K) rfl ?_;refine S As (nil ?_);refine aP (TA 1 (TA 2 kN)) (fun(z:Int)=>[(5,.a (.d (.int .i64 z)))]) (fun z=>H) (fun z=>(Option.bind (lG j (jL n) g.av.l z) fun i=>on (i) fun u=>some u)=some r) ?_ ?_
 ·intro aw L;refine aa (S As (nil ?_));refine block ?_;obtain⟨k,M,b⟩:=cG b;refine bD (TA 1 (TA 2 kN)) (fun(z:Int×Nat)=>[(5,.a (.d (.int .i64 z.1))),(6,.a (.d (.int .i64 ((z.2:Nat):Int))))]) (fun z=>H) (fun z=>g.aF.l.length-z.2) (fun z=>Option.bind (mB j (g.aF.l.drop z.2) z.1) k=some r) (J,0) b wA ?_;rintro ⟨m,v⟩ b ax N;try dsimp only at b
  refine ay fun O w=>?_;refine aa (S Mv (S Fv (S Ld ?_)));refine sLen (f:=aM) (s:=g.aF) (TK rfl) rfl rfl rfl rfl fun az=>?_;refine S BI (S Mv (G0 Mv (G0 Mv ?_)));refine G2 18 19 rfl rfl BI ?_;refine S PA (nil ?_);refine ah.iM (fun l=>Option.bind (mB j l m) k=some r) (Option.bind (some m) k=some r) b (fun b=>by rw [mB] at b; exact b) (fun _ o b=>by rw [mB] at b; rw [o] at b; exact b) rfl rfl (fun aA y p P b=>?_) (fun p b=>?_)
  ·rw [mB] at b;rw [P,cond_true] at b;try dsimp only at p
   have aB:=oD (and_left p);refine sk w ?_;clear w O;refine ay fun Q B=>?_;refine block ?_;refine region ?_;refine S Mv ?_;obtain⟨aC,R,b⟩:=qO rfl b;refine s0 (dc rfl rfl R) rfl ?_;refine S Fv (S Ld (S Mv ?_));obtain⟨aD,U,b⟩:=vO y b;refine S (ix aM v U) (S Ld ?_);refine kE (TK rfl) rfl rfl rfl rfl fun aE=>?_;obtain⟨W,X,b⟩:=qO rfl b
   refine s0 (dc rfl rfl X) rfl ?_;refine S As (nil ?_);refine B _ ?_;clear B Q;refine region ?_;refine S Mv ?_;refine SI ?_;refine S As (nil ?_);exact N _ (W,(v+1)) wA b (dl y)
  have b:=ku M b;refine ah.exit ?_;obtain⟨aG,Y,b⟩:=cC b;have b:=ku Y b;exact L _ m wA b
 rintro Z b;try dsimp only at b
 refine aP kN (fun(z:Int)=>[(5,.a (.d (.int .i64 z)))]) (fun z=>H) (fun z=>(some z)=some r) ?_ ?_
 ·intro aH ab;refine aa (S As (nil ?_));refine block ?_;obtain⟨q,ad,b⟩:=cG b;refine bD (TA 1 (TA 2 kN)) (fun(z:Int×Nat)=>[(5,.a (.d (.int .i64 z.1))),(7,.a (.d (.int .i64 ((z.2:Nat):Int))))]) (fun z=>H) (fun z=>g.av.l.length-z.2) (fun z=>Option.bind (lG j (jL n) (g.av.l.drop z.2) z.1) q=some r) (Z,0) b wA ?_;rintro ⟨i,C⟩ b aI ae;try dsimp only at b
  refine ay fun ai E=>?_;refine aa (S Mv (S Fv ?_));refine s0 (ck (TK rfl) rfl rfl (congrArg (fun x=>some (A.d x)) (af.di _))) rfl ?_;refine sLen (f:=af.c) (s:=g.av) (TK rfl) rfl rfl rfl rfl fun aK=>?_;refine S BI (S Mv (G0 Mv (G0 Mv ?_)));refine G2 39 40 rfl rfl BI ?_;refine S PA (nil ?_);refine ah.iM (fun l=>Option.bind (lG j (jL n) l i) q=some r) (Option.bind (some i) q=some r) b (fun b=>by rw [lG] at b; exact b) (fun _ o b=>by rw [lG] at b; rw [o] at b; exact b) rfl rfl (fun aL F t aj b=>?_) (fun t b=>?_)
  ·rw [lG] at b;rw [aj,cond_true] at b;try dsimp only at t
   have aN:=oD (and_left t);refine sk E ?_;clear E ai;refine ay fun ak G=>?_;refine block ?_;refine region ?_;refine S Mv (S Fv ?_);refine s0 (ck (TK rfl) rfl rfl (congrArg (fun x=>some (A.d x)) (af.di _))) rfl ?_;refine S Mv ?_;obtain⟨aO,al,b⟩:=vO F b;refine S (ix af.c C al) (S Ld (S Mv ?_));obtain⟨aQ,am,b⟩:=qO rfl b;refine Sc rfl rfl (I am) ?_
   obtain⟨ao,ap,b⟩:=qO rfl b;refine s0 (dc rfl rfl ap) rfl ?_;refine S As (nil ?_);refine G _ ?_;clear G ak;refine region ?_;refine S Mv ?_;refine SI ?_;refine S As (nil ?_);exact ae _ (ao,(C+1)) wA b (dl F)
  have b:=ku ad b;refine ah.exit ?_;obtain⟨aR,ar,b⟩:=cC b;have b:=ku ar b;exact ab _ i wA b
 rintro u b;try dsimp only at b
 refine aa (S Mv (S As (nil ?_)));exact rt b
theorem Gl:∀(n:Nat),(zM (an:=an) n)
 | 0=>fun b=>by first|cases b|(rw [jL] at b; cases b)
 | n+1=>OJ n (Gl n)
def zN (b:af) (f:Int):Option Int:=jL F0 b f
theorem zO {b:af}{f r:Int}(g:zN b f=some r) (H:ag) :AC Tryz.prog 57 [.agg (af.c b),.d (.int .i64 f)] H fun v h'=>v=.a (.d (.int .i64 r))/\h'=H:=(Gl F0) g H 
def tO (b:af) (f:Int):Option Int:=jL F0 b f
theorem zP (a0:af) (a1:Int):zN a0 a1=tO a0 a1:=rfl
def ri  (b:Int):Option Int:=some b
def rj (b:Nat) (f:Int->Nat->Option Int) (g:Int):Option Int:=f g (b+1)
def rm (i:(Sl aN)) (j:Int) (b:Nat) (k:Int->Nat->Option Int):Nat->Int->Nat->Option Int
 | 0,_,_=>none
 | m+1,f,g=>(i.l[b]?).bind fun o=>bif ((decide (((g:Nat):Int)<((o.aG.l.length:Nat):Int)))&&(decide (f<=j))) then((bY f (1:Int)).bind fun p=>(i.l[b]?).bind fun q=>(q.aG.l[g]?).bind fun r=>(zN r.cB j).bind fun s=>(bY p s).bind fun t=>(rm i j b k m) t (g+1)) else(rj b k f)
def mC (b:(Sl aN)) (i:Int) :Nat->Int->Nat->Option Int
 | 0,_,_=>none
 | j+1,f,g=>bif ((decide (((g:Nat):Int)<((b.l.length:Nat):Int)))&&(decide (f<=i))) then((bY f (1:Int)).bind fun k=>rm b i g ((mC b i j)) (Option.elim (b.l[g]?) 1 (fun m=>m.aG.l.length+1)) k 0) else(ri   f)
def vV (b:(Sl aN)) (f:Int):Option Int:=mC b f (b.l.length+1) (0:Int) 0
theorem vW {g:Sl aN}{j:Int}{w0:Option Nat}{r:Int}(b:vV g j=some r) (H:ag) :AC Tryz.prog 51 [.d (Sl.d 2 aN.c w0 g),.d (.int .i64 j)] H fun v h'=>v=.a (.d (.int .i64 r))/\h'=H:=by
 unfold vV at b;refine AC.oW 51 [.tmp 4] Tryz.call51 Tryz.func51 ?_;refine aa (S As (nil ?_));refine aa (S As (nil ?_));refine aP kN (fun(z:Int)=>[(5,.a (.d (.int .i64 z)))]) (fun z=>H) (fun z=>ri z=some r) ?_ ?_
 ·intro Y y;refine aa (S As (nil ?_));refine block ?_;refine bD (TA 0 (TA 1 kN)) (fun(z:Nat×Int×Nat)=>[(5,.a (.d (.int .i64 z.2.1))),(6,.a (.d (.int .i64 ((z.2.2:Nat):Int))))]) (fun z=>H) (fun z=>z.1) (fun z=>mC g j z.1 z.2.1 z.2.2=some r) ((g.l.length+1),(0:Int),0) b wA ?_;rintro ⟨k,B,i⟩ b Z C;try dsimp only at b
  cases k with
  | zero=>cases b
  | succ k =>
    rw [mC] at b;refine ay fun E t=>?_;refine aa (S Mv (S Mv ?_));refine sLen (f:=aN.c) (s:=g) (TK rfl) rfl rfl rfl rfl fun ab=>?_;refine S BI (S Mv (G0 Mv (G0 Mv ?_)));refine G2 13 14 rfl rfl BI ?_;refine S PA (nil ?_);refine cE b (fun m b=>?_) (fun m b=>?_)
    ·try dsimp only at m
     have ad:=oD (and_left m);refine sk t ?_;clear t E;refine aP (TA 0 (TA 1 (TA 6 kN))) (fun(z:Int)=>[(5,.a (.d (.int .i64 z)))]) (fun z=>H) (fun z=>rj i ((mC g j k)) z=some r) ?_ ?_
     ·intro ae F;refine block ?_;refine aa (S Mv ?_);obtain⟨G,I,b⟩:=bO b;refine s0 (dc rfl rfl I) rfl ?_;refine S As (nil ?_);refine aa (S As (nil ?_));refine block ?_;refine bD (TA 0 (TA 1 (TA 6 kN))) (fun(z:Nat×Int×Nat)=>[(5,.a (.d (.int .i64 z.2.1))),(7,.a (.d (.int .i64 ((z.2.2:Nat):Int))))]) (fun z=>H) (fun z=>z.1) (fun z=>rm g j i ((mC g j k)) z.1 z.2.1 z.2.2=some r) ((Option.elim (g.l[i]?) 1 (fun o=>o.aG.l.length+1)),G,0) b wA ?_
      rintro ⟨p,J,u⟩ b af K;try dsimp only at b
      cases p with
      | zero=>cases b
      | succ p =>
        rw [rm] at b;refine ay fun L w=>?_;refine aa (S Mv (S Mv (S Mv ?_)));obtain⟨o,M,b⟩:=bO b;refine S (ix aN.c i M) (S Fv (S Ld ?_));refine sLen (f:=ax.c) (s:=o.aG) (TK rfl) rfl rfl rfl rfl fun ai=>?_;refine S BI (S Mv (G0 Mv (G0 Mv ?_)));refine G2 30 31 rfl rfl BI ?_;refine S PA (nil ?_);refine cE b (fun q b=>?_) (fun q b=>?_)
        ·try dsimp only at q
         have aj:=oD (and_left q);refine sk w ?_;clear w L;refine ay fun N x=>?_;refine block ?_;refine region ?_;refine S Mv ?_;obtain⟨ak,O,b⟩:=bO b;refine s0 (dc rfl rfl O) rfl ?_;refine S Mv (S Mv ?_);obtain⟨al,P,b⟩:=bO b;refine S (ix aN.c i P) (S Fv (S Ld (S Mv ?_)));obtain⟨am,Q,b⟩:=bO b;refine S (ix ax.c u Q) (S Fv (S Ld (S Mv ?_)))
         obtain⟨an,R,b⟩:=bO b;refine Sc rfl rfl (zO R) ?_;obtain⟨U,W,b⟩:=bO b;refine s0 (dc rfl rfl W) rfl ?_;refine S As (nil ?_);refine x _ ?_;clear x N;refine region ?_;refine S Mv ?_;refine SI ?_;refine S As (nil ?_);exact K _ (p,U,(u+1)) wA b (nS _)
        refine ah.exit ?_;exact F _ J wA b
     rintro X b;try dsimp only at b
     unfold rj at b;refine region ?_;refine S Mv ?_;refine SI ?_;refine S As (nil ?_);exact C _ (k,X,(i+1)) wA b (nS _)
    refine ah.exit ?_;exact y _ B wA b
 rintro ao b;try dsimp only at b
 unfold ri at b;refine aa (S Mv (S As (nil ?_)));exact rt b
def pT (f:Int) (g:aN):List ax->Int->Option (Int)
 | [],b=>some b
 | i::j,b=>bif (decide (b<=f)) then((bY b (1:Int)).bind fun k=>on (g) fun p=>on (i) fun l=>(tO l.cB f).bind fun m=>(bY k m).bind fun o=>pT f g (j) o) else(some b)
theorem OK {s:Sl aN}{t:Int}{k:Nat}{m:Int->Nat->Option Int}{j:aN}(o:s.l[k]?=some j) (p:(Int)->Option Int) (q:∀(b:Nat) (f:Int) (g:Nat),rj k m f=p f):∀(b:Nat) (f:Int) (g:Nat),(0<b/\j.aG.l.length<g+b)->rm s t k m b f g=Option.bind (pT t j (j.aG.l.drop g) f) p:=by
 intro b;induction b with
 | zero=>intro f g hn; exact absurd hn.1 (by omega)
 | succ b u =>
  intro f g hn;rw [rm];refine Q.preB o fun v w=>?_;subst w;by_cases bh:g<v.aG.l.length
  ·obtain⟨x,i⟩:=Qa bh;rw [Q.lF i,pT];refine Q.F5 (Q.vL bh) ?_;refine Q.kF ?_ ?_
   ·refine Q.nM rfl fun y=>?_;refine Q.mv o fun z r=>?_;refine Q.mv (by first|exact i|(simp only [r]; exact i)|(simp only [r] at i ⊢; exact i)) fun B C=>?_;refine Q.nM (zP _ _) fun E=>?_;refine Q.nM rfl fun F=>?_;all_goals exact u _ _ ⟨by omega,by omega⟩
   all_goals exact q b f g
  rw [dL (by omega),pT];refine Q.F6 (Q.zA bh) ?_;exact q b f g
def pU (f:Int):List aN->Int->Option (Int)
 | [],b=>some b
 | g::i,b=>bif (decide (b<=f)) then((bY b (1:Int)).bind fun j=>Option.bind (pT f g g.aG.l j) fun k=>on (k) fun m=>pU f (i) m) else(some b)
theorem OL {i:Sl aN}{m:Int}(o:(Int)->Option Int) (p:∀(b:Nat) (g:Int) (f:Nat),ri   g=o g):∀(b:Nat) (g:Int) (f:Nat),(0<b/\i.l.length<f+b)->mC i m b g f=Option.bind (pU m (i.l.drop f) g) o:=by
 intro b;induction b with
 | zero=>intro g f hn; exact absurd hn.1 (by omega)
 | succ b q =>
  intro g f hn;rw [mC];by_cases bh:f<i.l.length
  ·obtain⟨w,j⟩:=Qa bh;rw [Q.lF j,pU];refine Q.F5 (Q.vL bh) ?_;refine Q.kF ?_ ?_
   ·refine Q.nM rfl fun x=>?_;refine Q.q7 fun r s=>?_;refine OK j r ?_ _ _ _ ⟨by rw [j]; exact Nat.succ_pos _,by rw [j]; simp only [Option.elim]; omega⟩;intro y z B;refine Qe (s _) ?_;refine Q.q6 fun t u=>?_;have v:∀(k:Int),rj f (mC i m b) k=t k:=by
     intro k;refine Qe (u _) ?_;unfold rj;all_goals exact q _ _ ⟨by omega,by omega⟩
    all_goals exact v _
   all_goals exact p b g f
  rw [dL (by omega),pU];refine Q.F6 (Q.zA bh) ?_;exact p b g f
def nO (g:(Sl aN)) (i:Int):Option Int:=Option.bind (pU i g.l (0:Int)) fun b=>on (b) fun f=>some f
theorem vX (a0:(Sl aN)) (a1:Int):vV a0 a1=nO a0 a1:=by
 unfold vV nO;refine Qs ?_;refine Q.q7 fun f g=>?_;refine OL  f ?_ _ _ _ ⟨Nat.succ_pos _,by omega⟩;intro l m o;refine Qe (g _) ?_;refine Q.q6 fun i j=>?_;have k:∀(b:Int),ri  b=i b:=by
  intro b;refine Qe (j _) ?_;unfold ri;all_goals rfl
 all_goals exact k _
def mD (f:Int):List Z8->Int->Option (Int)
 | [],b=>some b
 | g::i,b=>bif (decide (b<=f)) then((bY b (1:Int)).bind fun j=>on (g) fun k=>(bY j ((k.aO.aX.l.length:Nat):Int)).bind fun m=>on (g) fun o=>(tO o.eE f).bind fun p=>(bY m p).bind fun q=>on (g) fun r=>(nO r.ct f).bind fun s=>(bY q s).bind fun t=>mD f (i) t) else(some b)
def pV (g:(Sl Z8)) (i:Int):Option Int:=Option.bind (mD i g.l (0:Int)) fun b=>on (b) fun f=>some f
def zQ (b:(Sl Z8)) (f:Int):Option Int:=pV b f
theorem Gm (a0:(Sl Z8)) (a1:Int):zQ a0 a1=pV a0 a1:=rfl
theorem Gp {g:Sl Z8}{k:Int}{w0:Option Nat}{r:Int}(b:zQ g k=some r) (H:ag) :AC Tryz.prog 52 [.d (Sl.d 10 Z8.c w0 g),.d (.int .i64 k)] H fun v h'=>v=.a (.d (.int .i64 r))/\h'=H:=by
 unfold zQ pV at b;refine AC.oW 45 [.tmp 4] Tryz.call52 Tryz.func52 ?_;refine aa (S As (nil ?_));refine aa (S As (nil ?_));refine aP kN (fun(z:Int)=>[(5,.a (.d (.int .i64 z)))]) (fun z=>H) (fun z=>(some z)=some r) ?_ ?_
 ·intro U u;refine aa (S As (nil ?_));refine block ?_;obtain⟨m,w,b⟩:=cG b;refine bD (TA 0 (TA 1 kN)) (fun(z:Int×Nat)=>[(5,.a (.d (.int .i64 z.1))),(6,.a (.d (.int .i64 ((z.2:Nat):Int))))]) (fun z=>H) (fun z=>g.l.length-z.2) (fun z=>Option.bind (mD k (g.l.drop z.2) z.1) m=some r) ((0:Int),0) b wA ?_;rintro ⟨o,i⟩ b W x;try dsimp only at b
  refine ay fun y q=>?_;refine aa (S Mv (S Mv ?_));refine sLen (f:=Z8.c) (s:=g) (TK rfl) rfl rfl rfl rfl fun X=>?_;refine S BI (S Mv (G0 Mv (G0 Mv ?_)));refine G2 12 13 rfl rfl BI ?_;refine S PA (nil ?_);refine ah.iM (fun l=>Option.bind (mD k l o) m=some r) (Option.bind (some o) m=some r) b (fun b=>by rw [mD] at b; exact b) (fun _ B b=>by rw [mD] at b; rw [B] at b; exact b) rfl rfl (fun Y j p C b=>?_) (fun p b=>?_)
  ·rw [mD] at b;rw [C,cond_true] at b;try dsimp only at p
   have Z:=oD (and_left p);refine sk q ?_;clear q y;refine ay fun E t=>?_;refine block ?_;refine ah.draw rfl ?_;refine Sd Mv ?_;obtain⟨ab,F,b⟩:=qO rfl b;refine au.s0 (dc rfl rfl F) rfl ?_;refine Sd Mv (Sd Mv ?_);obtain⟨G,I,b⟩:=vO j b;refine Sd (ix Z8.c i I) (Sd Fv (Sd Fv (Sd Ld ?_)));refine au.s0 (dx (f:=(bE .i64)) (s:=G.aO.aX) (TK rfl) rfl rfl rfl) rfl ?_
   obtain⟨ad,J,b⟩:=qO rfl b;refine au.s0 (dc rfl rfl J) rfl ?_;refine Sd Mv (Sd Mv ?_);obtain⟨ae,K,b⟩:=vO j b;refine Sd (ix Z8.c i K) (Sd Fv (Sd Ld (Sd Mv ?_)));obtain⟨af,L,b⟩:=qO (zP _ _) b;refine cN rfl rfl (zO L) ?_;obtain⟨ai,M,b⟩:=qO rfl b;refine au.s0 (dc rfl rfl M) rfl ?_;refine Sd Mv (Sd Mv ?_);obtain⟨aj,N,b⟩:=vO j b;refine Sd (ix Z8.c i N) (Sd Fv (Sd Ld (Sd Mv ?_)))
   obtain⟨ak,O,b⟩:=qO (vX _ _) b;refine cN rfl rfl (vW O) ?_;obtain⟨P,Q,b⟩:=qO rfl b;refine au.s0 (dc rfl rfl Q) rfl ?_;refine Sd As ?_;refine au.nil (by decide +kernel) ?_;refine t _ ?_;clear t E;refine region ?_;refine S Mv ?_;refine SI ?_;refine S As (nil ?_);exact x _ (P,(i+1)) wA b (dl j)
  have b:=ku w b;refine ah.exit ?_;obtain⟨al,R,b⟩:=cC b;have b:=ku R b;exact u _ o wA b
 rintro am b;try dsimp only at b
 refine aa (S Mv (S As (nil ?_)));exact rt b
def mF (f:Int):List Z6->Int->Option (Int)
 | [],b=>some b
 | g::i,b=>bif (decide (b<=f)) then((bY b (1:Int)).bind fun j=>on (g) fun k=>(bY j ((k.aO.aX.l.length:Nat):Int)).bind fun m=>on (g) fun o=>(pV o.aG f).bind fun p=>(bY m p).bind fun q=>on (g) fun r=>(nO r.ct f).bind fun s=>(bY q s).bind fun t=>mF f (i) t) else(some b)
def lH (f:Int):List Z9->Int->Option (Int)
 | [],b=>some b
 | g::i,b=>bif (decide (b<=f)) then((bY b (1:Int)).bind fun j=>on (g) fun k=>(nO k.ct f).bind fun l=>(bY j l).bind fun m=>lH f (i) m) else(some b)
def kH (b:Int):List az->Int->Option (Int)
 | [],f=>some f
 | i::j,f=>bif (decide (f<=b)) then(on (i) fun g=>(bY f ((g.cw.l.length:Nat):Int)).bind fun k=>(nO g.ct b).bind fun m=>(bY k m).bind fun o=>(pV g.bP b).bind fun p=>(bY o p).bind fun q=>Option.bind (mF b g.br.l q) fun r=>on (r) fun s=>Option.bind (lH b g.cm.l s) fun t=>on (t) fun u=>kH b (j) u) else(some f)
def rp (b:ar) (i:Int):Option Int:=Option.bind (kH i b.aD.l ((b.aD.l.length:Nat):Int)) fun f=>on (f) fun g=>some g
def zR (b:ar) (f:Int):Option Int:=rp b f
theorem OM (a0:ar) (a1:Int):zR a0 a1=rp a0 a1:=rfl
theorem ON {i:ar}{g r:Int}(b:zR i g=some r) (H:ag) :AC Tryz.prog 20 [.agg (ar.c i),.d (.int .i64 g)] H fun v h'=>v=.a (.d (.int .i64 r))/\h'=H:=by
 unfold zR rp at b;refine AC.oW 110 [.tmp 4] Tryz.call20 Tryz.func20 ?_;refine aa (S BX (S As (nil ?_)));refine aa (S Fv (S Ld ?_));refine sLen (f:=az.c) (s:=i.aD) (TK rfl) rfl rfl rfl rfl fun a2=>?_;refine S As (nil ?_);refine aP kN (fun(z:Int)=>[(5,.a (.d (.int .i64 z)))]) (fun z=>H) (fun z=>(some z)=some r) ?_ ?_
 ·intro a3 P;refine aa (S As (nil ?_));refine block ?_;obtain⟨k,Q,b⟩:=cG b;refine bD (TA 1 (TA 2 kN)) (fun(z:Int×Nat)=>[(5,.a (.d (.int .i64 z.1))),(6,.a (.d (.int .i64 ((z.2:Nat):Int))))]) (fun z=>H) (fun z=>i.aD.l.length-z.2) (fun z=>Option.bind (kH g (i.aD.l.drop z.2) z.1) k=some r) (((i.aD.l.length:Nat):Int),0) b wA ?_;rintro ⟨u,p⟩ b a4 R
  try dsimp only at b
  refine ay fun U G=>?_;refine aa (S Mv (S Fv (S Ld ?_)));refine sLen (f:=az.c) (s:=i.aD) (TK rfl) rfl rfl rfl rfl fun a5=>?_;refine S BI (S Mv (G0 Mv (G0 Mv ?_)));refine G2 19 20 rfl rfl BI ?_;refine S PA (nil ?_);refine ah.iM (fun l=>Option.bind (kH g l u) k=some r) (Option.bind (some u) k=some r) b (fun b=>by rw [kH] at b; exact b) (fun _ m b=>by rw [kH] at b; rw [m] at b; exact b) rfl rfl (fun a6 I w W b=>?_) (fun w b=>?_)
  ·rw [kH] at b;rw [W,cond_true] at b;try dsimp only at w
   have a7:=oD (and_left w);refine sk G ?_;clear G U;refine aP (TA 1 (TA 2 (TA 6 kN))) (fun(z:Int)=>[(5,.a (.d (.int .i64 z)))]) (fun z=>H) (fun z=>Option.bind (kH g (i.aD.l.drop (p+1)) z) k=some r) ?_ ?_
   ·intro a8 X;refine block ?_;refine aa (S Fv (S Ld (S Mv ?_)));obtain⟨j,Y,b⟩:=vO I b;refine S (ix az.c p Y) (S Ld ?_);refine Sl ?_;refine Sf ?_;refine nil ?_;refine bH 7 _ rfl (KA 1 (KA 2 (KA 5 (KA 6 aU.nil)))) ?_;refine ah.cH (Sd Mv (Sd Fv (Sd Ld ?_)));refine au.s0 (dx (f:=aM) (s:=j.cw) (TK rfl) rfl rfl rfl) rfl ?_;obtain⟨a9,Z,b⟩:=qO rfl b
    refine au.s0 (dc rfl rfl Z) rfl ?_;refine Sd Fv (Sd Ld (Sd Mv ?_));obtain⟨a_,ab,b⟩:=qO (vX _ _) b;refine cN rfl rfl (vW ab) ?_;obtain⟨a',ad,b⟩:=qO rfl b;refine au.s0 (dc rfl rfl ad) rfl ?_;refine Sd Fv (Sd Ld (Sd Mv ?_));obtain⟨ba,ae,b⟩:=qO (Gm _ _) b;refine cN rfl rfl (Gp ae) ?_;obtain⟨af,ai,b⟩:=qO rfl b;refine au.s0 (dc rfl rfl ai) rfl ?_
    refine Sd As ?_;refine au.nil (by decide +kernel) ?_;refine aP (TA 1 (TA 2 (TA 6 (TA 7 kN)))) (fun(z:Int)=>[(5,.a (.d (.int .i64 z)))]) (fun z=>H) (fun z=>Option.bind (Option.bind (lH g j.cm.l z) fun o=>on (o) fun x=>kH g (i.aD.l.drop (p+1)) x) k=some r) ?_ ?_
    ·intro bb aj;refine aa (S As (nil ?_));refine block ?_;obtain⟨y,ak,b⟩:=eG b;refine bD (TA 1 (TA 2 (TA 6 (TA 7 kN)))) (fun(z:Int×Nat)=>[(5,.a (.d (.int .i64 z.1))),(8,.a (.d (.int .i64 ((z.2:Nat):Int))))]) (fun z=>H) (fun z=>j.br.l.length-z.2) (fun z=>Option.bind (mF g (j.br.l.drop z.2) z.1) y=some r) (af,0) b wA ?_;rintro ⟨B,q⟩ b bc al
     try dsimp only at b
     refine ay fun am J=>?_;refine aa (S Mv (S Fv (S Ld ?_)));refine sLen (f:=Z6.c) (s:=j.br) (TK rfl) rfl rfl rfl rfl fun bd=>?_;refine S BI (S Mv (G0 Mv (G0 Mv ?_)));refine G2 51 52 rfl rfl BI ?_;refine S PA (nil ?_);refine ah.iM (fun l=>Option.bind (mF g l B) y=some r) (Option.bind (some B) y=some r) b (fun b=>by rw [mF] at b; exact b) (fun _ m b=>by rw [mF] at b; rw [m] at b; exact b) rfl rfl (fun be t C an b=>?_) (fun C b=>?_)
     ·rw [mF] at b;rw [an,cond_true] at b;try dsimp only at C
      have bf:=oD (and_left C);refine sk J ?_;clear J am;refine ay fun ao K=>?_;refine block ?_;refine ah.draw rfl ?_;refine Sd Mv ?_;obtain⟨bg,ap,b⟩:=qO rfl b;refine au.s0 (dc rfl rfl ap) rfl ?_;refine Sd Fv (Sd Ld (Sd Mv ?_));obtain⟨av,aw,b⟩:=vO t b;refine Sd (ix Z6.c q aw) (Sd Fv (Sd Fv (Sd Ld ?_)));refine au.s0 (dx (f:=(bE .i64)) (s:=av.aO.aX) (TK rfl) rfl rfl rfl) rfl ?_
      obtain⟨bh,ax,b⟩:=qO rfl b;refine au.s0 (dc rfl rfl ax) rfl ?_;refine Sd Fv (Sd Ld (Sd Mv ?_));obtain⟨bi,aA,b⟩:=vO t b;refine Sd (ix Z6.c q aA) (Sd Fv (Sd Ld (Sd Mv ?_)));obtain⟨bj,aB,b⟩:=qO (Gm _ _) b;refine cN rfl rfl (Gp aB) ?_;obtain⟨bk,aC,b⟩:=qO rfl b;refine au.s0 (dc rfl rfl aC) rfl ?_;refine Sd Fv (Sd Ld (Sd Mv ?_));obtain⟨bl,aE,b⟩:=vO t b
      refine Sd (ix Z6.c q aE) (Sd Fv (Sd Ld (Sd Mv ?_)));obtain⟨bm,aF,b⟩:=qO (vX _ _) b;refine cN rfl rfl (vW aF) ?_;obtain⟨aG,aH,b⟩:=qO rfl b;refine au.s0 (dc rfl rfl aH) rfl ?_;refine Sd As ?_;refine au.nil (by decide +kernel) ?_;refine K _ ?_;clear K ao;refine region ?_;refine S Mv ?_;refine SI ?_;refine S As (nil ?_);exact al _ (aG,(q+1)) wA b (dl t)
     have b:=ku ak b;refine ah.exit ?_;obtain⟨bn,aI,b⟩:=gP b;have b:=ku aI b;exact aj _ B wA b
    rintro aK b;try dsimp only at b
    refine aa (S As (nil ?_));refine block ?_;obtain⟨E,aL,b⟩:=eG b;refine bD (TA 1 (TA 2 (TA 6 (TA 7 kN)))) (fun(z:Int×Nat)=>[(5,.a (.d (.int .i64 z.1))),(9,.a (.d (.int .i64 ((z.2:Nat):Int))))]) (fun z=>H) (fun z=>j.cm.l.length-z.2) (fun z=>Option.bind (lH g (j.cm.l.drop z.2) z.1) E=some r) (aK,0) b wA ?_;rintro ⟨o,L⟩ b bo aN;try dsimp only at b
    refine ay fun aQ M=>?_;refine aa (S Mv (S Fv (S Ld ?_)));refine sLen (f:=Z9.c) (s:=j.cm) (TK rfl) rfl rfl rfl rfl fun bp=>?_;refine S BI (S Mv (G0 Mv (G0 Mv ?_)));refine G2 92 93 rfl rfl BI ?_;refine S PA (nil ?_);refine ah.iM (fun l=>Option.bind (lH g l o) E=some r) (Option.bind (some o) E=some r) b (fun b=>by rw [lH] at b; exact b) (fun _ m b=>by rw [lH] at b; rw [m] at b; exact b) rfl rfl (fun bq N F aR b=>?_) (fun F b=>?_)
    ·rw [lH] at b;rw [aR,cond_true] at b;try dsimp only at F
     have bs:=oD (and_left F);refine sk M ?_;clear M aQ;refine ay fun aS O=>?_;refine block ?_;refine region ?_;refine S Mv ?_;obtain⟨bt,aT,b⟩:=qO rfl b;refine s0 (dc rfl rfl aT) rfl ?_;refine S Fv (S Ld (S Mv ?_));obtain⟨bu,aV,b⟩:=vO N b;refine S (ix Z9.c L aV) (S Fv (S Ld (S Mv ?_)));obtain⟨bv,aW,b⟩:=qO (vX _ _) b;refine Sc rfl rfl (vW aW) ?_
     obtain⟨aY,aZ,b⟩:=qO rfl b;refine s0 (dc rfl rfl aZ) rfl ?_;refine S As (nil ?_);refine O _ ?_;clear O aS;refine region ?_;refine S Mv ?_;refine SI ?_;refine S As (nil ?_);exact aN _ (aY,(L+1)) wA b (dl N)
    have b:=ku aL b;refine ah.exit ?_;obtain⟨bw,a0,b⟩:=gP b;have b:=ku a0 b;exact X _ o wA b
   rintro x b;try dsimp only at b
   refine region ?_;refine S Mv ?_;refine SI ?_;refine S As (nil ?_);exact R _ (x,(p+1)) wA b (dl I)
  have b:=ku Q b;refine ah.exit ?_;obtain⟨bx,a1,b⟩:=cC b;have b:=ku a1 b;exact P _ u wA b
 rintro bz b;try dsimp only at b
 refine aa (S Mv (S As (nil ?_)));exact rt b
def pW (b:Int):Bool:=((((decide ((65:Int)<=b))&&(decide (b<=(90:Int))))||((decide ((97:Int)<=b))&&(decide (b<=(122:Int)))))||(decide (b=(95:Int))))
def zS (b:Int):Option Bool:=some (pW b)
theorem OO (a0:Int):zS a0=some (pW a0):=rfl
theorem OP {f:Int}{r:Bool}(b:zS f=some r) (H:ag) :AC Tryz.prog 143 [.d (.int .u8 f)] H fun v h'=>v=.a (.d (.bool r))/\h'=H:=by
 unfold zS pW at b;refine AC.oW 21 [.tmp 2] Tryz.call143 Tryz.func143 ?_;refine aa (S As (nil ?_));refine aa (S Mv (S BI (S Mv (G0 Mv ?_))));refine G1 6 rfl BI ?_;refine S PA (S Mv (G0 Mv ?_));refine G1 10 rfl BI ?_;refine G1 11 rfl Mv ?_;refine G0 Mv ?_;refine G1 13 rfl BI ?_;refine gC rfl rfl (fun hC=>aI (k:=12) rfl (gF rfl rfl rfl)) rfl ?_;refine S PO (S Mv (G0 Mv ?_));refine G1 18 rfl BI ?_
 refine S PO (S As (nil ?_));exact rt b
def rq (b:Int):Bool:=((decide ((48:Int)<=b))&&(decide (b<=(57:Int))))
def zT (b:Int):Option Bool:=some (rq b)
theorem OQ (a0:Int):zT a0=some (rq a0):=rfl
theorem OR {f:Int}{r:Bool}(b:zT f=some r) (H:ag) :AC Tryz.prog 144 [.d (.int .u8 f)] H fun v h'=>v=.a (.d (.bool r))/\h'=H:=by
 unfold zT rq at b;refine AC.oW 9 [.tmp 2] Tryz.call144 Tryz.func144 ?_;refine aa (S As (nil ?_));refine aa (S Mv (S BI (S Mv (G0 Mv ?_))));refine G1 6 rfl BI ?_;refine S PA (S As (nil ?_));exact rt b
def nP :List UInt8->Nat->Unit ⊕ Bool
 | [],b=>Sum.inl ()
 | g::i,b=>on (g) fun j=>on (pW ((j.toNat:Nat):Int)) fun f=>on (bif ((!f)&&!(decide (((b:Nat):Int)=(0:Int)))) then g else(0:UInt8)) fun k=>on (bif ((!f)&&!(decide (((b:Nat):Int)=(0:Int)))) then rq ((k.toNat:Nat):Int) else false) fun l=>bif ((!f)&&((decide (((b:Nat):Int)=(0:Int)))||(!l))) then(Sum.inr false) else(nP  (i) (b+1) )
def bQ (b:Bs):Bool:=bif ((decide (((b.length:Nat):Int)<(1:Int)))||(decide ((64:Int)<((b.length:Nat):Int)))) then(false) else(on (nP  b 0 ) fun f=>match f with|Sum.inl _=>(on (()) fun _=>true)|Sum.inr g=>(g))
def tP (b:Bs):Option Bool:=some (bQ b)
theorem jh (a0:Bs):tP a0=some (bQ a0):=rfl
theorem ji {g:Bs}{r:Bool}(b:tP g=some r) (H:ag) :AC Tryz.prog 91 [.d (.str g)] H fun v h'=>v=.a (.d (.bool r))/\h'=H:=by
 unfold tP bQ at b;refine AC.oW 34 [.tmp 2] Tryz.call91 Tryz.func91 ?_;refine aa (S As (nil ?_));refine ay fun t m=>?_;refine aa (S Mv ?_);refine kE (TK rfl) rfl rfl rfl rfl fun K=>?_;refine S BI (S Mv (G0 Mv ?_));refine gC rfl rfl (fun hC=>aI (k:=8) rfl (vl (TK rfl) rfl rfl rfl)) rfl ?_;refine G1 9 rfl BI ?_;refine S PO (nil ?_);refine cP b (fun u b=>?_) (fun u b=>?_)
 ·refine aa (S As (nil ?_));exact rt b
 refine sk m ?_;clear m t;refine aP kN (fun(z:Unit)=>[]) (fun z=>H) (fun z=>some (true)=some r) ?_ ?_
 ·intro L w;refine aa (S As (nil ?_));refine block ?_;obtain⟨o,p,b⟩:=fo b;refine bD (TA 0 kN) (fun(z:Nat)=>[(3,.a (.d (.int .i64 ((z:Nat):Int))))]) (fun z=>H) (fun z=>g.length-z) (fun z=>o (nP  (g.drop z) z )=some r) 0 b wA ?_;rintro f b M x;try dsimp only at b
  refine ay fun y q=>?_;refine aa (S Mv (S Mv ?_));refine kE (TK rfl) rfl rfl rfl rfl fun N=>?_;refine S BI (nil ?_);refine ah.cL (fun l=>o (nP  l f )=some r) b rfl (fun O i j b=>?_) (fun j b=>?_)
  ·rw [nP] at b;try dsimp only at j
   have P:=oD j;refine sk q ?_;clear q y;refine ay fun B s=>?_;refine block ?_;refine aa (S Mv (S Mv ?_));obtain⟨Q,C,b⟩:=vP i b;refine s0 (mm (n:=f) (TK rfl) rfl rfl rfl C) rfl ?_;obtain⟨R,E,b⟩:=vP (OO _) b;refine Sc rfl rfl (OP E) ?_;refine S NB (S Mv (G0 Mv ?_));refine G1 24 rfl BI ?_;refine G1 25 rfl Mv ?_;refine G0 Mv (G0 Mv ?_)
   obtain⟨U,F,b⟩:=mw (fun _=>i) b;refine gC rfl rfl (fun hC=>aI (k:=27) rfl (aI (k:=28) rfl (mm (n:=f) (TK rfl) rfl rfl rfl (F hC)))) rfl ?_;obtain⟨W,G,b⟩:=mw (fun _=>(OQ _)) b;refine dH 29 rfl rfl rfl rfl rfl (fun hC=>OR (G hC)) ?_;refine G1 30 rfl NB ?_;refine gC rfl rfl (fun hC=>aI (k:=26) rfl (pM rfl rfl rfl)) rfl ?_;refine S PA (nil ?_)
   refine cP b (fun I b=>?_) (fun I b=>?_)
   ·refine aa (S As (nil ?_));refine ah.ret ?_;repeat (first|refine bM ?_|refine bN ?_)
    have b:=ku p b;obtain rfl:=oJ b;refine bF.bK H rfl ⟨rfl,rfl⟩ ?_;exact(fun _ _ h=>h)
   refine sk s ?_;clear s B;refine region ?_;refine S Mv ?_;refine SI ?_;refine S As (nil ?_);exact x _ (f+1) wA b (dl i)
  rw [nP] at b;have b:=ku p b;try dsimp only at b
  refine ah.exit ?_;obtain⟨X,J,b⟩:=fo b;have b:=ku J b;exact w _ () wA b
 rintro _ b;try dsimp only at b
 refine aa (S As (nil ?_));exact rt b
def nQ (f:af->Option Int):List af->Int->Option (Int)
 | [],b=>some b
 | g::i,b=>on (g) fun j=>(f j).bind fun k=>(bY b k).bind fun l=>nQ f (i) l
def kI:Nat->af->Option Int
 | 0,_=>none
 | n+1,g=>Option.bind (nQ (kI n) g.av.l (1:Int)) fun b=>on (b) fun f=>some f
def zU (n:Nat):Prop:=∀{a0:af}   {r:Int},kI n a0=some r->∀(H:ag),AC Tryz.prog 191 [.agg (af.c a0)] H fun v h'=>v=.a (.d (.int .i64 r))/\h'=H
theorem OS (n:Nat) (t:zU (an:=an) n):zU (an:=an) (n+1):=by
 intro i   r b H;rw [kI] at b;refine AC.oW 21 [.tmp 2] Tryz.call191 Tryz.func191 ?_;refine aa (S BX (S As (nil ?_)));refine aa (S As (nil ?_));refine aP kN (fun(z:Int)=>[(3,.a (.d (.int .i64 z)))]) (fun z=>H) (fun z=>(some z)=some r) ?_ ?_
 ·intro J u;refine aa (S As (nil ?_));refine block ?_;obtain⟨j,v,b⟩:=cG b;refine bD (TA 1 kN) (fun(z:Int×Nat)=>[(3,.a (.d (.int .i64 z.1))),(4,.a (.d (.int .i64 ((z.2:Nat):Int))))]) (fun z=>H) (fun z=>i.av.l.length-z.2) (fun z=>Option.bind (nQ (kI n) (i.av.l.drop z.2) z.1) j=some r) ((1:Int),0) b wA ?_;rintro ⟨k,m⟩ b K w;try dsimp only at b
  refine ay fun y o=>?_;refine aa (S Mv (S Fv ?_));refine s0 (ck (TK rfl) rfl rfl (congrArg (fun x=>some (A.d x)) (af.di _))) rfl ?_;refine sLen (f:=af.c) (s:=i.av) (TK rfl) rfl rfl rfl rfl fun L=>?_;refine S BI (nil ?_);refine ah.cL (fun l=>Option.bind (nQ (kI n) l k) j=some r) b rfl (fun M p g b=>?_) (fun g b=>?_)
  ·rw [nQ] at b;try dsimp only at g
   have N:=oD g;refine sk o ?_;clear o y;refine ay fun B q=>?_;refine block ?_;refine region ?_;refine S Mv (S Fv ?_);refine s0 (ck (TK rfl) rfl rfl (congrArg (fun x=>some (A.d x)) (af.di _))) rfl ?_;refine S Mv ?_;obtain⟨O,C,b⟩:=vO p b;refine S (ix af.c m C) (S Ld ?_);obtain⟨P,E,b⟩:=qO rfl b;refine Sc rfl rfl (t E) ?_;obtain⟨F,G,b⟩:=qO rfl b
   refine s0 (dc rfl rfl G) rfl ?_;refine S As (nil ?_);refine q _ ?_;clear q B;refine region ?_;refine S Mv ?_;refine SI ?_;refine S As (nil ?_);exact w _ (F,(m+1)) wA b (dl p)
  rw [nQ] at b;have b:=ku v b;refine ah.exit ?_;obtain⟨Q,I,b⟩:=cC b;have b:=ku I b;exact u _ k wA b
 rintro R b;try dsimp only at b
 refine aa (S Mv (S As (nil ?_)));exact rt b
theorem Gq:∀(n:Nat),(zU (an:=an) n)
 | 0=>fun b=>by first|cases b|(rw [kI] at b; cases b)
 | n+1=>OS n (Gq n)
def Gs (b:af):Option Int:=kI F0 b
theorem Gt {b:af}{r:Int}(f:Gs b=some r) (H:ag) :AC Tryz.prog 191 [.agg (af.c b)] H fun v h'=>v=.a (.d (.int .i64 r))/\h'=H:=(Gq F0) f H 
def vY (b:af):Option Int:=kI F0 b
theorem Gu (a0:af):Gs a0=vY a0:=rfl
def nR (f:af->Option Int):List af->Int->Option (Int)
 | [],b=>some b
 | i::j,b=>on (i) fun k=>(f k).bind fun g=>nR f (j) (if g>b then g else b)
def kJ:Nat->af->Option Int
 | 0,_=>none
 | n+1,i=>Option.bind (nR (kJ n) i.av.l (0:Int)) fun b=>on (b) fun f=>(bY f (1:Int)).bind fun g=>some g
def zV (n:Nat):Prop:=∀{a0:af}   {r:Int},kJ n a0=some r->∀(H:ag),AC Tryz.prog 192 [.agg (af.c a0)] H fun v h'=>v=.a (.d (.int .i64 r))/\h'=H
theorem OT (n:Nat) (v:zV (an:=an) n):zV (an:=an) (n+1):=by
 intro j   r b H;rw [kJ] at b;refine AC.oW 22 [.tmp 2] Tryz.call192 Tryz.func192 ?_;refine aa (S BX (S As (nil ?_)));refine aa (S As (nil ?_));refine aP kN (fun(z:Int)=>[(3,.a (.d (.int .i64 z)))]) (fun z=>H) (fun z=>((bY z (1:Int)).bind fun k=>some k)=some r) ?_ ?_
 ·intro K w;refine aa (S As (nil ?_));refine block ?_;obtain⟨m,y,b⟩:=cG b;refine bD (TA 1 kN) (fun(z:Int×Nat)=>[(3,.a (.d (.int .i64 z.1))),(4,.a (.d (.int .i64 ((z.2:Nat):Int))))]) (fun z=>H) (fun z=>j.av.l.length-z.2) (fun z=>Option.bind (nR (kJ n) (j.av.l.drop z.2) z.1) m=some r) ((0:Int),0) b wA ?_;rintro ⟨g,o⟩ b L B;try dsimp only at b
  refine ay fun C p=>?_;refine aa (S Mv (S Fv ?_));refine s0 (ck (TK rfl) rfl rfl (congrArg (fun x=>some (A.d x)) (af.di _))) rfl ?_;refine sLen (f:=af.c) (s:=j.av) (TK rfl) rfl rfl rfl rfl fun M=>?_;refine S BI (nil ?_);refine ah.cL (fun l=>Option.bind (nR (kJ n) l g) m=some r) b rfl (fun N q i b=>?_) (fun i b=>?_)
  ·rw [nR] at b;try dsimp only at i
   have O:=oD i;refine sk p ?_;clear p C;refine ay fun E t=>?_;refine block ?_;refine region ?_;refine S Mv (S Fv ?_);refine s0 (ck (TK rfl) rfl rfl (congrArg (fun x=>some (A.d x)) (af.di _))) rfl ?_;refine S Mv ?_;obtain⟨P,F,b⟩:=vO q b;refine S (ix af.c o F) (S Ld ?_);obtain⟨u,G,b⟩:=qO rfl b;refine Sc rfl rfl (v G) ?_
   refine s0 (M9 rfl rfl) rfl ?_;refine S As (nil ?_);refine t _ ?_;clear t E;refine region ?_;refine S Mv ?_;refine SI ?_;refine S As (nil ?_);exact B _ ((if u>g then u else g),(o+1)) wA b (dl q)
  rw [nR] at b;have b:=ku y b;refine ah.exit ?_;obtain⟨Q,I,b⟩:=cC b;have b:=ku I b;exact w _ g wA b
 rintro R b;try dsimp only at b
 refine aa (S Mv ?_);obtain⟨k,J,b⟩:=qT rfl b;refine s0 (dc rfl rfl J) rfl ?_;refine S As (nil ?_);exact rt b
theorem Gv:∀(n:Nat),(zV (an:=an) n)
 | 0=>fun b=>by first|cases b|(rw [kJ] at b; cases b)
 | n+1=>OT n (Gv n)
def Gw (b:af):Option Int:=kJ F0 b
theorem Gx {b:af}{r:Int}(f:Gw b=some r) (H:ag) :AC Tryz.prog 192 [.agg (af.c b)] H fun v h'=>v=.a (.d (.int .i64 r))/\h'=H:=(Gv F0) f H 
def vZ (b:af):Option Int:=kJ F0 b
theorem Gy (a0:af):Gw a0=vZ a0:=rfl
def nT (g:(Sl Bs)) (f:Bs):Nat->Nat->Option (Unit ⊕ Bool)
 | 0,b=>some (Sum.inl ())
 | i+1,b=>on (f) fun j=>(g.l[b]?).bind fun k=>bif ((j==k)) then(some (Sum.inr true)) else(nT g f (i) (b+1) )
def mG (f:(Sl Bs)):List Bs->Nat->Option (Unit ⊕ Bool)
 | [],b=>some (Sum.inl ())
 | g::i,b=>Option.bind (nT f g b 0 ) fun j=>match j with|Sum.inl _=>(on (()) fun _=>mG f (i) (b+1) )|Sum.inr k=>(some (Sum.inr k))
def ru (b:(Sl Bs)):Option Bool:=Option.bind (mG b b.l 0 ) fun f=>match f with|Sum.inl _=>(on (()) fun _=>some false)|Sum.inr g=>(some g)
def zW (b:(Sl Bs)):Option Bool:=ru b
theorem OU (a0:(Sl Bs)):zW a0=ru a0:=rfl
theorem OV {g:Sl Bs}{w0:Option Nat}{r:Bool}(b:zW g=some r) (H:ag) :AC Tryz.prog 254 [.d (Sl.d 1 aM w0 g)] H fun v h'=>v=.a (.d (.bool r))/\h'=H:=by
 unfold zW ru at b;refine AC.oW 25 [.tmp 2] Tryz.call254 Tryz.func254 ?_;refine aa (S As (nil ?_));refine aP kN (fun(z:Unit)=>[]) (fun z=>H) (fun z=>(some false)=some r) ?_ ?_
 ·intro R C;refine aa (S As (nil ?_));refine block ?_;obtain⟨j,p,b⟩:=cG b;refine bD (TA 0 kN) (fun(z:Nat)=>[(3,.a (.d (.int .i64 ((z:Nat):Int))))]) (fun z=>H) (fun z=>g.l.length-z) (fun z=>Option.bind (mG g (g.l.drop z) z ) j=some r) 0 b wA ?_;rintro i b U E;try dsimp only at b
  refine ay fun F q=>?_;refine aa (S Mv (S Mv ?_));refine sLen (f:=aM) (s:=g) (TK rfl) rfl rfl rfl rfl fun W=>?_;refine S BI (nil ?_);refine ah.cL (fun l=>Option.bind (mG g l i ) j=some r) b rfl (fun t u k b=>?_) (fun k b=>?_)
  ·rw [mG] at b;try dsimp only at k
   have X:=oD k;refine sk q ?_;clear q F;refine aP (TA 0 (TA 3 kN)) (fun(z:Unit)=>[]) (fun z=>H) (fun z=>Option.bind (mG g (g.l.drop (i+1)) (i+1) ) j=some r) ?_ ?_
   ·intro Y G;refine block ?_;refine aa (S As (nil ?_));refine block ?_;obtain⟨w,x,b⟩:=eG b;refine bD (TA 0 (TA 3 kN)) (fun(z:Nat)=>[(4,.a (.d (.int .i64 ((z:Nat):Int))))]) (fun z=>H) (fun z=>i-z) (fun z=>Option.bind (nT g t (i-z) z ) w=some r) 0 b wA ?_;rintro m b Z I;try dsimp only at b
    refine ay fun J y=>?_;refine aa (S Mv (S Mv (S BI (nil ?_))));refine ah.zB (fun l=>Option.bind (nT g t l m ) w=some r) b rfl (fun K o b=>?_) (fun o b=>?_)
    ·rw [nT] at b;try dsimp only at o
     have ab:=oD o;refine sk y ?_;clear y J;refine ay fun L B=>?_;refine block ?_;refine ah.cH (Sd Mv (Sd Mv ?_));obtain⟨ad,M,b⟩:=vO u b;refine Sd (ix aM i M) (Sd Ld (Sd Mv (Sd Mv ?_)));obtain⟨ae,N,b⟩:=qO rfl b;refine Sd (ix aM m N) (Sd Ld (Sd BS ?_));refine au.nil (by decide +kernel) ?_;refine cO b (fun O b=>?_) (fun O b=>?_)
     ·refine aa (S As (nil ?_));refine ah.ret ?_;repeat (first|refine bM ?_|refine bN ?_)
      have b:=ku x b;have b:=ku p b;obtain rfl:=oJ b;refine bF.bK H rfl ⟨rfl,rfl⟩ ?_;exact(fun _ _ h=>h)
     refine sk B ?_;clear B L;refine region ?_;refine S Mv ?_;refine SI ?_;refine S As (nil ?_);exact I _ (m+1) wA b (dn K)
    rw [nT] at b;have b:=ku x b;try dsimp only at b
    refine ah.exit ?_;obtain⟨af,P,b⟩:=gP b;have b:=ku P b;exact G _ () wA b
   rintro _ b;try dsimp only at b
   refine region ?_;refine S Mv ?_;refine SI ?_;refine S As (nil ?_);exact E _ (i+1) wA b (dl u)
  rw [mG] at b;have b:=ku p b;try dsimp only at b
  refine ah.exit ?_;obtain⟨ai,Q,b⟩:=cC b;have b:=ku Q b;exact C _ () wA b
 rintro _ b;try dsimp only at b
 refine aa (S As (nil ?_));exact rt b
def kK (b:af) (f:Bool):Option Bool:=bif (decide (b.ak=(0:Int))) then(some ((((decide (b.bl=(0:Int)))&&((b.aV==([]:Bs))))&&(decide (((b.av.l.length:Nat):Int)=(0:Int))))&&(decide (((b.aF.l.length:Nat):Int)=(0:Int))))) else(bif (decide (b.ak=(1:Int))) then(some (((((decide (b.bl=(0:Int)))||(decide (b.bl=(1:Int))))&&((b.aV==([]:Bs))))&&(decide (((b.av.l.length:Nat):Int)=(0:Int))))&&(decide (((b.aF.l.length:Nat):Int)=(0:Int))))) else(bif (decide (b.ak=(2:Int))) then(some ((((b.aV==([]:Bs)))&&(decide (((b.av.l.length:Nat):Int)=(0:Int))))&&(decide (((b.aF.l.length:Nat):Int)=(0:Int))))) else(bif (decide (b.ak=(3:Int))) then(some (((decide (b.bl=(0:Int)))&&(decide (((b.av.l.length:Nat):Int)=(0:Int))))&&(decide (((b.aF.l.length:Nat):Int)=(0:Int))))) else(bif (decide (b.ak=(4:Int))) then(on (bif (((decide (b.bl=(0:Int)))&&(decide (((b.av.l.length:Nat):Int)=(0:Int))))&&(decide (((b.aF.l.length:Nat):Int)=(0:Int)))) then bQ b.aV else false) fun g=>some (((((((decide (b.bl=(0:Int)))&&(decide (((b.av.l.length:Nat):Int)=(0:Int))))&&(decide (((b.aF.l.length:Nat):Int)=(0:Int))))&&g)&&(!(b.aV==([116,114,117,101]:Bs))))&&(!(b.aV==([102,97,108,115,101]:Bs))))&&(!(b.aV==([110,117,108,108]:Bs))))) else(bif (decide (b.ak=(5:Int))) then(some (((decide (b.bl=(0:Int)))&&((b.aV==([]:Bs))))&&(decide (((b.aF.l.length:Nat):Int)=(0:Int))))) else(bif (decide (b.ak=(6:Int))) then(aQ ((((decide (b.bl=(0:Int)))&&((b.aV==([]:Bs))))&&(decide (((b.aF.l.length:Nat):Int)=((b.av.l.length:Nat):Int))))) (ru b.aF) false fun i=>some ((((decide (b.bl=(0:Int)))&&((b.aV==([]:Bs))))&&(decide (((b.aF.l.length:Nat):Int)=((b.av.l.length:Nat):Int))))&&(!i))) else(bif (decide (b.ak=(7:Int))) then(on (bif (((f&&(decide (b.bl=(0:Int))))&&(decide (((b.av.l.length:Nat):Int)=(0:Int))))&&(decide (((b.aF.l.length:Nat):Int)=(0:Int)))) then bQ b.aV else false) fun j=>some ((((f&&(decide (b.bl=(0:Int))))&&(decide (((b.av.l.length:Nat):Int)=(0:Int))))&&(decide (((b.aF.l.length:Nat):Int)=(0:Int))))&&j)) else(some false))))))))
def zX (b:af) (f:Bool):Option Bool:=kK b f
theorem OW (a0:af) (a1:Bool):zX a0 a1=kK a0 a1:=rfl
theorem OX {g:af}{j r:Bool}(b:zX g j=some r) (H:ag) :AC Tryz.prog 226 [.agg (af.c g),.d (.bool j)] H fun v h'=>v=.a (.d (.bool r))/\h'=H:=by
 unfold zX kK at b;refine AC.oW 193 [.tmp 4] Tryz.call226 Tryz.func226 ?_;refine aa (S BX (S As (nil ?_)));refine ay fun l i=>?_;refine aa (S Fv (S Ld (nil ?_)));refine block ?_;refine aa (S BI (S As (nil ?_)));refine cE b (fun m b=>?_) (fun m b=>?_)
 ·refine aa (S Fv (S Ld (S BI (S Mv (G0 Fv ?_)))));refine G1 13 rfl Ld ?_;refine G1 14 rfl BS ?_;refine S PA (S Mv (G0 Fv ?_));refine gC rfl rfl (fun hC=>aI (k:=18) rfl (ck (TK rfl) rfl rfl (congrArg (fun x=>some (A.d x)) (af.di _)))) rfl ?_;refine gC rfl rfl (fun hC=>aI (k:=19) rfl (dx (f:=af.c) (s:=g.av) (TK rfl) rfl rfl rfl)) rfl ?_;refine G1 20 rfl BI ?_;refine S PA (S Mv (G0 Fv ?_))
  refine G1 24 rfl Ld ?_;refine gC rfl rfl (fun hC=>aI (k:=25) rfl (dx (f:=aM) (s:=g.aF) (TK rfl) rfl rfl rfl)) rfl ?_;refine G1 26 rfl BI ?_;refine S PA (S As (nil ?_));exact rt b
 refine aa (S BI (S As (nil ?_)));refine cE b (fun o b=>?_) (fun o b=>?_)
 ·refine aa (S Fv (S Ld (S BI (S Mv (G0 Fv ?_)))));refine G1 35 rfl Ld ?_;refine G1 36 rfl BI ?_;refine S PO (S Mv (G0 Fv ?_));refine G1 40 rfl Ld ?_;refine G1 41 rfl BS ?_;refine S PA (S Mv (G0 Fv ?_));refine gC rfl rfl (fun hC=>aI (k:=45) rfl (ck (TK rfl) rfl rfl (congrArg (fun x=>some (A.d x)) (af.di _)))) rfl ?_;refine gC rfl rfl (fun hC=>aI (k:=46) rfl (dx (f:=af.c) (s:=g.av) (TK rfl) rfl rfl rfl)) rfl ?_
  refine G1 47 rfl BI ?_;refine S PA (S Mv (G0 Fv ?_));refine G1 51 rfl Ld ?_;refine gC rfl rfl (fun hC=>aI (k:=52) rfl (dx (f:=aM) (s:=g.aF) (TK rfl) rfl rfl rfl)) rfl ?_;refine G1 53 rfl BI ?_;refine S PA (S As (nil ?_));exact rt b
 refine aa (S BI (S As (nil ?_)));refine cE b (fun p b=>?_) (fun p b=>?_)
 ·refine aa (S Fv (S Ld (S BS (S Mv (G0 Fv ?_)))));refine gC rfl rfl (fun hC=>aI (k:=62) rfl (ck (TK rfl) rfl rfl (congrArg (fun x=>some (A.d x)) (af.di _)))) rfl ?_;refine gC rfl rfl (fun hC=>aI (k:=63) rfl (dx (f:=af.c) (s:=g.av) (TK rfl) rfl rfl rfl)) rfl ?_;refine G1 64 rfl BI ?_;refine S PA (S Mv (G0 Fv ?_));refine G1 68 rfl Ld ?_;refine gC rfl rfl (fun hC=>aI (k:=69) rfl (dx (f:=aM) (s:=g.aF) (TK rfl) rfl rfl rfl)) rfl ?_
  refine G1 70 rfl BI ?_;refine S PA (S As (nil ?_));exact rt b
 refine aa (S BI (S As (nil ?_)));refine cE b (fun q b=>?_) (fun q b=>?_)
 ·refine aa (S Fv (S Ld (S BI (S Mv (G0 Fv ?_)))));refine gC rfl rfl (fun hC=>aI (k:=79) rfl (ck (TK rfl) rfl rfl (congrArg (fun x=>some (A.d x)) (af.di _)))) rfl ?_;refine gC rfl rfl (fun hC=>aI (k:=80) rfl (dx (f:=af.c) (s:=g.av) (TK rfl) rfl rfl rfl)) rfl ?_;refine G1 81 rfl BI ?_;refine S PA (S Mv (G0 Fv ?_));refine G1 85 rfl Ld ?_;refine gC rfl rfl (fun hC=>aI (k:=86) rfl (dx (f:=aM) (s:=g.aF) (TK rfl) rfl rfl rfl)) rfl ?_
  refine G1 87 rfl BI ?_;refine S PA (S As (nil ?_));exact rt b
 refine aa (S BI (S As (nil ?_)));refine cE b (fun t b=>?_) (fun t b=>?_)
 ·refine aa (S Fv (S Ld (S BI (S Mv (G0 Fv ?_)))));refine gC rfl rfl (fun hC=>aI (k:=96) rfl (ck (TK rfl) rfl rfl (congrArg (fun x=>some (A.d x)) (af.di _)))) rfl ?_;refine gC rfl rfl (fun hC=>aI (k:=97) rfl (dx (f:=af.c) (s:=g.av) (TK rfl) rfl rfl rfl)) rfl ?_;refine G1 98 rfl BI ?_;refine S PA (S Mv (G0 Fv ?_));refine G1 102 rfl Ld ?_;refine gC rfl rfl (fun hC=>aI (k:=103) rfl (dx (f:=aM) (s:=g.aF) (TK rfl) rfl rfl rfl)) rfl ?_
  refine G1 104 rfl BI ?_;refine S PA (S Mv (G0 Fv ?_));refine G1 108 rfl Ld ?_;obtain⟨E,u,b⟩:=q8 (fun _=>(jh _)) b;refine dH 109 rfl rfl rfl rfl rfl (fun hC=>ji (u hC)) ?_;refine S PA (S Mv (G0 Fv ?_));refine G1 113 rfl Ld ?_;refine G1 114 rfl BS ?_;refine S PA (S Mv (G0 Fv ?_));refine G1 118 rfl Ld ?_;refine G1 119 rfl BS ?_;refine S PA (S Mv (G0 Fv ?_));refine G1 123 rfl Ld ?_
  refine G1 124 rfl BS ?_;refine S PA (S As (nil ?_));exact rt b
 refine aa (S BI (S As (nil ?_)));refine cE b (fun w b=>?_) (fun w b=>?_)
 ·refine aa (S Fv (S Ld (S BI (S Mv (G0 Fv ?_)))));refine G1 133 rfl Ld ?_;refine G1 134 rfl BS ?_;refine S PA (S Mv (G0 Fv ?_));refine G1 138 rfl Ld ?_;refine gC rfl rfl (fun hC=>aI (k:=139) rfl (dx (f:=aM) (s:=g.aF) (TK rfl) rfl rfl rfl)) rfl ?_;refine G1 140 rfl BI ?_;refine S PA (S As (nil ?_));exact rt b
 refine aa (S BI (S As (nil ?_)));refine cE b (fun y b=>?_) (fun y b=>?_)
 ·refine aa (S Fv (S Ld (S BI (S Mv (G0 Fv ?_)))));refine G1 149 rfl Ld ?_;refine G1 150 rfl BS ?_;refine S PA (S Mv (G0 Fv ?_));refine G1 154 rfl Ld ?_;refine gC rfl rfl (fun hC=>aI (k:=155) rfl (dx (f:=aM) (s:=g.aF) (TK rfl) rfl rfl rfl)) rfl ?_;refine G0 Fv ?_;refine gC rfl rfl (fun hC=>aI (k:=157) rfl (ck (TK rfl) rfl rfl (congrArg (fun x=>some (A.d x)) (af.di _)))) rfl ?_
  refine gC rfl rfl (fun hC=>aI (k:=158) rfl (dx (f:=af.c) (s:=g.av) (TK rfl) rfl rfl rfl)) rfl ?_;refine G2 156 159 rfl rfl BI ?_;refine S PA (S Mv (G0 Fv ?_));refine G1 163 rfl Ld ?_;obtain⟨F,z,b⟩:=dB (OU _) b;refine dH 164 rfl rfl rfl rfl rfl (fun hC=>OV (z hC)) ?_;refine G1 165 rfl NB ?_;refine S PA (S As (nil ?_));exact rt b
 refine aa (S BI (S As (nil ?_)));refine cE b (fun B b=>?_) (fun B b=>?_)
 ·refine aa (S Mv (S Mv (G0 Fv ?_)));refine G1 172 rfl Ld ?_;refine G1 173 rfl BI ?_;refine S PA (S Mv (G0 Fv ?_));refine gC rfl rfl (fun hC=>aI (k:=177) rfl (ck (TK rfl) rfl rfl (congrArg (fun x=>some (A.d x)) (af.di _)))) rfl ?_;refine gC rfl rfl (fun hC=>aI (k:=178) rfl (dx (f:=af.c) (s:=g.av) (TK rfl) rfl rfl rfl)) rfl ?_;refine G1 179 rfl BI ?_;refine S PA (S Mv (G0 Fv ?_))
  refine G1 183 rfl Ld ?_;refine gC rfl rfl (fun hC=>aI (k:=184) rfl (dx (f:=aM) (s:=g.aF) (TK rfl) rfl rfl rfl)) rfl ?_;refine G1 185 rfl BI ?_;refine S PA (S Mv (G0 Fv ?_));refine G1 189 rfl Ld ?_;obtain⟨G,C,b⟩:=q8 (fun _=>(jh _)) b;refine dH 190 rfl rfl rfl rfl rfl (fun hC=>ji (C hC)) ?_;refine S PA (S As (nil ?_));exact rt b
 refine sk i ?_;clear i l;refine aa (S As (nil ?_));exact rt b
def kL (b:Bool):List Bs->Unit ⊕ Bool
 | []=>Sum.inl ()
 | f::g=>on (bif b then f else([]:Bs)) fun i=>on (bif b then bQ i else false) fun j=>bif (b&&(!j)) then(Sum.inr false) else(kL b (g) )
def jM (f:Bool) (b:af->Bool->Option Bool):List af->Option (Unit ⊕ Bool)
 | []=>some (Sum.inl ())
 | g::i=>on (g) fun j=>(b j f).bind fun k=>bif (!k) then(some (Sum.inr false)) else(jM f b (i) )
def gJ:Nat->af->Bool->Option Bool
 | 0,_,_=>none
 | n+1,b,f=>(kK b f).bind fun g=>bif (!g) then(some false) else(on (kL f b.aF.l ) fun i=>match i with|Sum.inl _=>(on (()) fun _=>Option.bind (jM f (gJ n) b.av.l ) fun j=>match j with|Sum.inl _=>(on (()) fun _=>some true)|Sum.inr k=>(some k))|Sum.inr m=>(some m))
def zY (n:Nat):Prop:=∀{a0:af}{a1:Bool}   {r:Bool},gJ n a0 a1=some r->∀(H:ag),AC Tryz.prog 193 [.agg (af.c a0),.d (.bool a1)] H fun v h'=>v=.a (.d (.bool r))/\h'=H
theorem OY (n:Nat) (I:zY (an:=an) n):zY (an:=an) (n+1):=by
 intro g i   r b H;rw [gJ] at b;refine AC.oW 43 [.tmp 4] Tryz.call193 Tryz.func193 ?_;refine aa (S BX (S As (nil ?_)));refine ay fun J o=>?_;refine aa (S Ld (S Mv ?_));obtain⟨am,K,b⟩:=qT (OW _ _) b;refine Sc rfl rfl (OX K) ?_;refine S NB (nil ?_);refine cE b (fun L b=>?_) (fun L b=>?_)
 ·refine aa (S As (nil ?_));exact rt b
 refine sk o ?_;clear o J;refine aP (TA 1 (TA 2 kN)) (fun(z:Unit)=>[]) (fun z=>H) (fun z=>(Option.bind (jM i (gJ n) g.av.l ) fun M=>match M with|Sum.inl _=>(on (()) fun _=>some true)|Sum.inr N=>(some N))=some r) ?_ ?_
 ·intro ao O;refine aa (S As (nil ?_));refine block ?_;obtain⟨p,q,b⟩:=cC b;refine bD (TA 1 (TA 2 kN)) (fun(z:Nat)=>[(5,.a (.d (.int .i64 ((z:Nat):Int))))]) (fun z=>H) (fun z=>g.aF.l.length-z) (fun z=>p (kL i (g.aF.l.drop z) )=some r) 0 b wA ?_;rintro t b ap P;try dsimp only at b
  refine ay fun Q u=>?_;refine aa (S Mv (S Fv (S Ld ?_)));refine sLen (f:=aM) (s:=g.aF) (TK rfl) rfl rfl rfl rfl fun ar=>?_;refine S BI (nil ?_);refine ah.cL (fun l=>p (kL i l )=some r) b rfl (fun au v j b=>?_) (fun j b=>?_)
  ·rw [kL] at b;try dsimp only at j
   have aw:=oD j;refine sk u ?_;clear u Q;refine ay fun R w=>?_;refine block ?_;refine aa (S Mv (S Mv (G0 Fv ?_)));refine G1 20 rfl Ld ?_;refine G0 Mv ?_;obtain⟨ax,U,b⟩:=mw (fun _=>v) b;refine gC rfl rfl (fun hC=>aI (k:=21) rfl (aI (k:=22) rfl (eO (f:=aM) (n:=t) (TK rfl) rfl (TK rfl) rfl rfl rfl (U hC)))) rfl ?_;refine G1 23 rfl Ld ?_
   obtain⟨az,W,b⟩:=mw (fun _=>(jh _)) b;refine dH 24 rfl rfl rfl rfl rfl (fun hC=>ji (W hC)) ?_;refine G1 25 rfl NB ?_;refine S PA (nil ?_);refine cP b (fun X b=>?_) (fun X b=>?_)
   ·refine aa (S As (nil ?_));refine ah.ret ?_;repeat (first|refine bM ?_|refine bN ?_)
    have b:=ku q b;obtain rfl:=oJ b;refine bF.bK H rfl ⟨rfl,rfl⟩ ?_;exact(fun _ _ h=>h)
   refine sk w ?_;clear w R;refine region ?_;refine S Mv ?_;refine SI ?_;refine S As (nil ?_);exact P _ (t+1) wA b (dl v)
  rw [kL] at b;have b:=ku q b;try dsimp only at b
  refine ah.exit ?_;obtain⟨aA,Y,b⟩:=cC b;have b:=ku Y b;exact O _ () wA b
 rintro _ b;try dsimp only at b
 refine aP kN (fun(z:Unit)=>[]) (fun z=>H) (fun z=>(some true)=some r) ?_ ?_
 ·intro aB Z;refine aa (S As (nil ?_));refine block ?_;obtain⟨y,B,b⟩:=cG b;refine bD (TA 1 (TA 2 kN)) (fun(z:Nat)=>[(6,.a (.d (.int .i64 ((z:Nat):Int))))]) (fun z=>H) (fun z=>g.av.l.length-z) (fun z=>Option.bind (jM i (gJ n) (g.av.l.drop z) ) y=some r) 0 b wA ?_;rintro C b aC ab;try dsimp only at b
  refine ay fun ad E=>?_;refine aa (S Mv (S Fv ?_));refine s0 (ck (TK rfl) rfl rfl (congrArg (fun x=>some (A.d x)) (af.di _))) rfl ?_;refine sLen (f:=af.c) (s:=g.av) (TK rfl) rfl rfl rfl rfl fun aD=>?_;refine S BI (nil ?_);refine ah.cL (fun l=>Option.bind (jM i (gJ n) l ) y=some r) b rfl (fun aE F m b=>?_) (fun m b=>?_)
  ·rw [jM] at b;try dsimp only at m
   have aG:=oD m;refine sk E ?_;clear E ad;refine ay fun ae G=>?_;refine block ?_;refine aa (S Fv ?_);refine s0 (ck (TK rfl) rfl rfl (congrArg (fun x=>some (A.d x)) (af.di _))) rfl ?_;refine S Mv ?_;obtain⟨aH,ai,b⟩:=vO F b;refine S (ix af.c C ai) (S Ld (S Mv ?_));obtain⟨aK,aj,b⟩:=qO rfl b;refine Sc rfl rfl (I aj) ?_;refine S NB (nil ?_)
   refine cO b (fun ak b=>?_) (fun ak b=>?_)
   ·refine aa (S As (nil ?_));refine ah.ret ?_;repeat (first|refine bM ?_|refine bN ?_)
    have b:=ku B b;obtain rfl:=oJ b;refine bF.bK H rfl ⟨rfl,rfl⟩ ?_;exact(fun _ _ h=>h)
   refine sk G ?_;clear G ae;refine region ?_;refine S Mv ?_;refine SI ?_;refine S As (nil ?_);exact ab _ (C+1) wA b (dl F)
  rw [jM] at b;have b:=ku B b;try dsimp only at b
  refine ah.exit ?_;obtain⟨aL,al,b⟩:=cC b;have b:=ku al b;exact Z _ () wA b
 rintro _ b;try dsimp only at b
 refine aa (S As (nil ?_));exact rt b
theorem Gz:∀(n:Nat),(zY (an:=an) n)
 | 0=>fun b=>by first|cases b|(rw [gJ] at b; cases b)
 | n+1=>OY n (Gz n)
def GA (b:af) (f:Bool):Option Bool:=gJ F0 b f
theorem GB {b:af}{f r:Bool}(g:GA b f=some r) (H:ag) :AC Tryz.prog 193 [.agg (af.c b),.d (.bool f)] H fun v h'=>v=.a (.d (.bool r))/\h'=H:=(Gz F0) g H 
def zZ (b:af) (f:Bool):Option Bool:=gJ F0 b f
theorem GC (a0:af) (a1:Bool):GA a0 a1=zZ a0 a1:=rfl
def iB (f:af):Option Bool:=(vY f).bind fun b=>aQ ((decide (b<=(4096:Int)))) (vZ f) (0:Int) fun g=>aQ (((decide (b<=(4096:Int)))&&(decide (g<=(24:Int))))) (zZ f true) false fun i=>some (((decide (b<=(4096:Int)))&&(decide (g<=(24:Int))))&&i)
def v_ (b:af):Option Bool:=iB b
theorem GD (a0:af):v_ a0=iB a0:=rfl
theorem GF {f:af}{r:Bool}(b:v_ f=some r) (H:ag) :AC Tryz.prog 145 [.agg (af.c f)] H fun v h'=>v=.a (.d (.bool r))/\h'=H:=by
 unfold v_ iB at b;refine AC.oW 15 [.tmp 2] Tryz.call145 Tryz.func145 ?_;refine aa (S BX (S As (nil ?_)));refine aa (S Ld ?_);obtain⟨k,g,b⟩:=qT (Gu _) b;refine Sc rfl rfl (Gt g) ?_;refine S BI (S Mv (G0 Ld ?_));obtain⟨l,i,b⟩:=dB (Gy _) b;refine dH 7 rfl rfl rfl rfl rfl (fun hC=>Gx (i hC)) ?_;refine G1 8 rfl BI ?_;refine S PA (S Mv (G0 Ld ?_));obtain⟨m,j,b⟩:=dB (GC _ _) b
 refine dH 12 rfl rfl rfl rfl rfl (fun hC=>GB (j hC)) ?_;refine S PA (S As (nil ?_));exact rt b
def nU (b:af->Option Bool):List af->Option (Unit ⊕ Bool)
 | []=>some (Sum.inl ())
 | f::g=>on (f) fun i=>(b i).bind fun j=>bif (!j) then(some (Sum.inr false)) else(nU b (g) )
def lI:Nat->af->Option Bool
 | 0,_=>none
 | n+1,b=>Option.bind (nU (lI n) b.av.l ) fun f=>match f with|Sum.inl _=>(on (()) fun _=>some (!decide (b.ak=(7:Int))))|Sum.inr g=>(some g)
def z8 (n:Nat):Prop:=∀{a0:af}   {r:Bool},lI n a0=some r->∀(H:ag),AC Tryz.prog 146 [.agg (af.c a0)] H fun v h'=>v=.a (.d (.bool r))/\h'=H
theorem OZ (n:Nat) (t:z8 (an:=an) n):z8 (an:=an) (n+1):=by
 intro g   r b H;rw [lI] at b;refine AC.oW 21 [.tmp 2] Tryz.call146 Tryz.func146 ?_;refine aa (S BX (S As (nil ?_)));refine aP (TA 1 kN) (fun(z:Unit)=>[]) (fun z=>H) (fun z=>(some (!decide (g.ak=(7:Int))))=some r) ?_ ?_
 ·intro G u;refine aa (S As (nil ?_));refine block ?_;obtain⟨j,k,b⟩:=cG b;refine bD (TA 1 kN) (fun(z:Nat)=>[(3,.a (.d (.int .i64 ((z:Nat):Int))))]) (fun z=>H) (fun z=>g.av.l.length-z) (fun z=>Option.bind (nU (lI n) (g.av.l.drop z) ) j=some r) 0 b wA ?_;rintro m b I v;try dsimp only at b
  refine ay fun w o=>?_;refine aa (S Mv (S Fv ?_));refine s0 (ck (TK rfl) rfl rfl (congrArg (fun x=>some (A.d x)) (af.di _))) rfl ?_;refine sLen (f:=af.c) (s:=g.av) (TK rfl) rfl rfl rfl rfl fun J=>?_;refine S BI (nil ?_);refine ah.cL (fun l=>Option.bind (nU (lI n) l ) j=some r) b rfl (fun K p i b=>?_) (fun i b=>?_)
  ·rw [nU] at b;try dsimp only at i
   have L:=oD i;refine sk o ?_;clear o w;refine ay fun y q=>?_;refine block ?_;refine aa (S Fv ?_);refine s0 (ck (TK rfl) rfl rfl (congrArg (fun x=>some (A.d x)) (af.di _))) rfl ?_;refine S Mv ?_;obtain⟨M,B,b⟩:=vO p b;refine S (ix af.c m B) (S Ld ?_);obtain⟨N,C,b⟩:=qO rfl b;refine Sc rfl rfl (t C) ?_;refine S NB (nil ?_)
   refine cO b (fun E b=>?_) (fun E b=>?_)
   ·refine aa (S As (nil ?_));refine ah.ret ?_;repeat (first|refine bM ?_|refine bN ?_)
    have b:=ku k b;obtain rfl:=oJ b;refine bF.bK H rfl ⟨rfl,rfl⟩ ?_;exact(fun _ _ h=>h)
   refine sk q ?_;clear q y;refine region ?_;refine S Mv ?_;refine SI ?_;refine S As (nil ?_);exact v _ (m+1) wA b (dl p)
  rw [nU] at b;have b:=ku k b;try dsimp only at b
  refine ah.exit ?_;obtain⟨O,F,b⟩:=cC b;have b:=ku F b;exact u _ () wA b
 rintro _ b;try dsimp only at b
 refine aa (S Fv (S Ld (S BI (S As (nil ?_)))));exact rt b
theorem GG:∀(n:Nat),(z8 (an:=an) n)
 | 0=>fun b=>by first|cases b|(rw [lI] at b; cases b)
 | n+1=>OZ n (GG n)
def z_ (b:af):Option Bool:=lI F0 b
theorem GH {b:af}{r:Bool}(f:z_ b=some r) (H:ag) :AC Tryz.prog 146 [.agg (af.c b)] H fun v h'=>v=.a (.d (.bool r))/\h'=H:=(GG F0) f H 
def we (b:af):Option Bool:=lI F0 b
theorem GI (a0:af):z_ a0=we a0:=rfl
def ry  :Option Bool:=some true
def rz (b:Nat) (f:Nat->Option Bool) :Option Bool:=f (b+1)
def rA (j:(Sl aN)) (b:Nat) (k:Nat->Option Bool):Nat->Nat->Option Bool
 | 0,_=>none
 | o+1,f=>(j.l[b]?).bind fun p=>bif (decide (((f:Nat):Int)<((p.aG.l.length:Nat):Int))) then((j.l[b]?).bind fun q=>(q.aG.l[f]?).bind fun g=>(tP g.ai).bind fun i=>aQ (!(!i)) (v_ g.cB) false fun m=>aQ (!((!i)||(!m))) (z_ g.cB) false fun r=>bif (((!i)||(!m))||(!r)) then(some false) else((rA j b k o) (f+1))) else(rz b k )
def mH (b:(Sl aN)) :Nat->Nat->Option Bool
 | 0,_=>none
 | i+1,f=>bif (decide (((f:Nat):Int)<((b.l.length:Nat):Int))) then((b.l[f]?).bind fun j=>(tP j.ai).bind fun g=>aQ (!(!g)) (b.l[f]?) aN.zero fun k=>bif ((!g)||(decide ((16:Int)<((k.aG.l.length:Nat):Int)))) then(some false) else(rA b f ((mH b i)) (Option.elim (b.l[f]?) 1 (fun m=>m.aG.l.length+1)) 0)) else(ry   )
def wi (b:(Sl aN)):Option Bool:=bif (decide ((16:Int)<((b.l.length:Nat):Int))) then(some false) else(mH b (b.l.length+1) 0)
theorem wj {g:Sl aN}{w0:Option Nat}{r:Bool}(b:wi g=some r) (H:ag) :AC Tryz.prog 92 [.d (Sl.d 2 aN.c w0 g)] H fun v h'=>v=.a (.d (.bool r))/\h'=H:=by
 unfold wi at b;refine AC.oW 65 [.tmp 2] Tryz.call92 Tryz.func92 ?_;refine aa (S As (nil ?_));refine ay fun C t=>?_;refine aa (S Mv ?_);refine sLen (f:=aN.c) (s:=g) (TK rfl) rfl rfl rfl rfl fun af=>?_;refine S BI (nil ?_);refine cE b (fun E b=>?_) (fun E b=>?_)
 ·refine aa (S As (nil ?_));exact rt b
 refine sk t ?_;clear t C;refine aP kN (fun(z:Unit)=>[]) (fun z=>H) (fun z=>ry =some r) ?_ ?_
 ·intro ai F;refine aa (S As (nil ?_));refine block ?_;refine bD (TA 0 kN) (fun(z:Nat×Nat)=>[(3,.a (.d (.int .i64 ((z.2:Nat):Int))))]) (fun z=>H) (fun z=>z.1) (fun z=>mH g z.1 z.2=some r) ((g.l.length+1),0) b wA ?_;rintro ⟨j,i⟩ b aj G;try dsimp only at b
  cases j with
  | zero=>cases b
  | succ j =>
    rw [mH] at b;refine ay fun I u=>?_;refine aa (S Mv (S Mv ?_));refine sLen (f:=aN.c) (s:=g) (TK rfl) rfl rfl rfl rfl fun ak=>?_;refine S BI (nil ?_);refine cE b (fun m b=>?_) (fun m b=>?_)
    ·try dsimp only at m
     have al:=oD m;refine sk u ?_;clear u I;refine aP (TA 0 (TA 3 kN)) (fun(z:Unit)=>[]) (fun z=>H) (fun z=>rz i ((mH g j)) =some r) ?_ ?_
     ·intro am J;refine block ?_;refine ay fun K w=>?_;refine aa (S Mv (S Mv ?_));obtain⟨an,L,b⟩:=bO b;refine S (ix aN.c i L) (S Fv (S Ld ?_));obtain⟨ao,M,b⟩:=bO b;refine Sc rfl rfl (ji M) ?_;refine S NB (S Mv (G0 Mv (G0 Mv ?_)));obtain⟨N,O,b⟩:=gO b;refine gC rfl rfl (fun hC=>aI (k:=23) rfl (aI (k:=24) rfl (eO (f:=aN.c) (n:=i) (TK rfl) rfl (TK rfl) rfl rfl rfl (O hC)))) rfl ?_
      refine G1 25 rfl Fv ?_;refine G1 26 rfl Ld ?_;refine gC rfl rfl (fun hC=>aI (k:=27) rfl (dx (f:=ax.c) (s:=N.aG) (TK rfl) rfl rfl rfl)) rfl ?_;refine G1 28 rfl BI ?_;refine S PO (nil ?_);refine cE b (fun P b=>?_) (fun P b=>?_)
      ·refine aa (S As (nil ?_));exact rt b
      refine sk w ?_;clear w K;refine aa (S As (nil ?_));refine block ?_;refine bD (TA 0 (TA 3 kN)) (fun(z:Nat×Nat)=>[(4,.a (.d (.int .i64 ((z.2:Nat):Int))))]) (fun z=>H) (fun z=>z.1) (fun z=>rA g i ((mH g j)) z.1 z.2=some r) ((Option.elim (g.l[i]?) 1 (fun o=>o.aG.l.length+1)),0) b wA ?_;rintro ⟨p,x⟩ b ap Q;try dsimp only at b
      cases p with
      | zero=>cases b
      | succ p =>
        rw [rA] at b;refine ay fun R y=>?_;refine aa (S Mv (S Mv (S Mv ?_)));obtain⟨o,U,b⟩:=bO b;refine S (ix aN.c i U) (S Fv (S Ld ?_));refine sLen (f:=ax.c) (s:=o.aG) (TK rfl) rfl rfl rfl rfl fun ar=>?_;refine S BI (nil ?_);refine cE b (fun q b=>?_) (fun q b=>?_)
        ·try dsimp only at q
         have au:=oD q;refine sk y ?_;clear y R;refine ay fun W B=>?_;refine block ?_;refine aa (S Mv (S Mv ?_));obtain⟨av,X,b⟩:=bO b;refine S (ix aN.c i X) (S Fv (S Ld (S Mv ?_)));obtain⟨aw,Y,b⟩:=bO b;refine S (ix ax.c x Y) (S Ld ?_);refine Sl ?_;refine Sf ?_;refine nil ?_;refine bH 5 _ rfl (KA 0 (KA 3 (KA 4 aU.nil))) ?_;refine aa (S Fv (S Ld ?_))
         obtain⟨az,Z,b⟩:=bO b;refine Sc rfl rfl (ji Z) ?_;refine S NB (S Mv (G0 Fv ?_));refine G1 54 rfl Ld ?_;obtain⟨aA,ab,b⟩:=gO b;refine dH 55 rfl rfl rfl rfl rfl (fun hC=>GF (ab hC)) ?_;refine G1 56 rfl NB ?_;refine S PO (S Mv (G0 Fv ?_));refine G1 60 rfl Ld ?_;obtain⟨aB,ad,b⟩:=gO b;refine dH 61 rfl rfl rfl rfl rfl (fun hC=>GH (ad hC)) ?_;refine G1 62 rfl NB ?_
         refine S PO (nil ?_);refine cE b (fun ae b=>?_) (fun ae b=>?_)
         ·refine aa (S As (nil ?_));exact rt b
         refine sk B ?_;clear B W;refine region ?_;refine S Mv ?_;refine SI ?_;refine S As (nil ?_);exact Q _ (p,(x+1)) wA b (nS _)
        refine ah.exit ?_;exact J _ () wA b
     rintro _ b;try dsimp only at b
     unfold rz at b;refine region ?_;refine S Mv ?_;refine SI ?_;refine S As (nil ?_);exact G _ (j,(i+1)) wA b (nS _)
    refine ah.exit ?_;exact F _ () wA b
 rintro _ b;try dsimp only at b
 unfold ry at b;refine aa (S As (nil ?_));exact rt b
def pX (g:aN):List ax->Option (Unit ⊕ Bool)
 | []=>some (Sum.inl ())
 | j::k=>on (g) fun m=>on (j) fun b=>on (bQ b.ai) fun f=>aQ (!(!f)) (iB b.cB) false fun i=>aQ (!((!f)||(!i))) (we b.cB) false fun l=>bif (((!f)||(!i))||(!l)) then(some (Sum.inr false)) else(pX g (k) )
theorem O3 {q:Sl aN}{j:Nat}{m:Nat->Option Bool}{i:aN}(o:q.l[j]?=some i) (k:(Unit ⊕ Bool)->Option Bool) (r:∀(b:Nat) (f:Nat),rz j m =k (Sum.inl ())) (s:∀e:Bool,some e=k (Sum.inr e)):∀(b:Nat) (f:Nat),(0<b/\i.aG.l.length<f+b)->rA q j m b f=Option.bind (pX i (i.aG.l.drop f) ) k:=by
 intro b;induction b with
 | zero=>intro f hn; exact absurd hn.1 (by omega)
 | succ b t =>
  intro f hn;rw [rA];refine Q.preB o fun u v=>?_;subst v;by_cases bh:f<u.aG.l.length
  ·obtain⟨w,g⟩:=Qa bh;rw [Q.lF g,pX];refine QT bh ?_;refine Q.mv o fun x p=>?_;refine Q.mv (by first|exact g|(simp only [p]; exact g)|(simp only [p] at g ⊢; exact g)) fun y z=>?_;refine Q.mv (jh _) fun B C=>?_;refine Q.F4 (GD _) fun E=>?_;refine Q.F4 (GI _) fun F=>?_;refine Q.kF ?_ ?_
   ·all_goals exact s _
   all_goals exact t _ ⟨by omega,by omega⟩
  rw [dL (by omega),pX];refine QF bh ?_;exact r b f
def pY :List aN->Option (Unit ⊕ Bool)
 | []=>some (Sum.inl ())
 | b::g=>on (b) fun i=>on (bQ i.ai) fun f=>on (bif !(!f) then b else aN.zero) fun j=>bif ((!f)||(decide ((16:Int)<((j.aG.l.length:Nat):Int)))) then(some (Sum.inr false)) else(Option.bind (pX b b.aG.l ) fun k=>match k with|Sum.inl _=>(on (()) fun _=>pY  (g) )|Sum.inr m=>(some (Sum.inr m)))
theorem O4 {i:Sl aN}(j:(Unit ⊕ Bool)->Option Bool) (o:∀(b:Nat) (f:Nat),ry   =j (Sum.inl ())) (k:∀e:Bool,some e=j (Sum.inr e)):∀(b:Nat) (f:Nat),(0<b/\i.l.length<f+b)->mH i b f=Option.bind (pY  (i.l.drop f) ) j:=by
 intro b;induction b with
 | zero=>intro f hn; exact absurd hn.1 (by omega)
 | succ b p =>
  intro f hn;rw [mH];by_cases bh:f<i.l.length
  ·obtain⟨u,g⟩:=Qa bh;rw [Q.lF g,pY];refine QT bh ?_;refine Q.mv g fun v w=>?_;refine Q.mv (jh _) fun x y=>?_;refine Q.Od g fun z B=>?_;refine Q.kF ?_ ?_
   ·all_goals exact k _
   refine Q.q7 fun q m=>?_;refine O3 g q ?_ ?_ _ _ ⟨by rw [g]; exact Nat.succ_pos _,by rw [g]; simp only [Option.elim]; omega⟩
   ·intro C E;refine Qe (m _) ?_;try dsimp only
    refine Q.q6 fun r s=>?_;have t:rz f (mH i b) =r ():=by
     refine Qe (s _) ?_;unfold rz;all_goals exact p _ ⟨by omega,by omega⟩
    all_goals exact t
   intro F;refine Qe (m _) ?_;try dsimp only
   all_goals exact k _
  rw [dL (by omega),pY];refine QF bh ?_;exact o b f
def nV (b:(Sl aN)):Option Bool:=bif (decide ((16:Int)<((b.l.length:Nat):Int))) then(some false) else(Option.bind (pY  b.l ) fun f=>match f with|Sum.inl _=>(on (()) fun _=>some true)|Sum.inr g=>(some g))
theorem wk (a0:(Sl aN)):wi a0=nV a0:=by
 unfold wi nV;refine Qs ?_;refine Q.kF ?_ ?_
 ·all_goals rfl
 refine Q.q7 fun f b=>?_;refine O4  f ?_ ?_ _ _ ⟨Nat.succ_pos _,by omega⟩
 ·intro k l;refine Qe (b _) ?_;try dsimp only
  refine Q.q6 fun g i=>?_;have j:ry  =g ():=by
   refine Qe (i _) ?_;unfold ry;all_goals rfl
  all_goals exact j
 intro m;refine Qe (b _) ?_;try dsimp only
 all_goals rfl
def nW (j:aB):List Int->Nat->Option (Unit ⊕ Bool)
 | [],b=>some (Sum.inl ())
 | f::k,b=>on (f) fun i=>on (bif (!decide (i=(1:Int))) then f else(0:Int)) fun m=>bif ((!decide (i=(1:Int)))&&(!decide (m=(2:Int)))) then(some (Sum.inr false)) else(on (bif (decide ((0:Int)<((b:Nat):Int))) then f else(0:Int)) fun g=>aQ (((decide ((0:Int)<((b:Nat):Int)))&&(decide (g=(1:Int))))) (pJ ((b:Nat):Int) (1:Int)) (0:Int) fun o=>aQ (((decide ((0:Int)<((b:Nat):Int)))&&(decide (g=(1:Int))))) (cq j.aX.l o) (0:Int) fun p=>bif (((decide ((0:Int)<((b:Nat):Int)))&&(decide (g=(1:Int))))&&(decide (p=(1:Int)))) then(some (Sum.inr false)) else(nW j (k) (b+1) ))
def pZ (b:aB):Option Bool:=on (bQ b.ai) fun f=>bif ((!f)||(decide ((24:Int)<((b.aX.l.length:Nat):Int)))) then(some false) else(Option.bind (nW b b.aX.l 0 ) fun g=>match g with|Sum.inl _=>(on (()) fun _=>some true)|Sum.inr i=>(some i))
def Aa (b:aB):Option Bool:=pZ b
theorem GJ (a0:aB):Aa a0=pZ a0:=rfl
theorem GK {g:aB}{r:Bool}(b:Aa g=some r) (H:ag) :AC Tryz.prog 147 [.agg (aB.c g)] H fun v h'=>v=.a (.d (.bool r))/\h'=H:=by
 unfold Aa pZ at b;refine AC.oW 54 [.tmp 2] Tryz.call147 Tryz.func147 ?_;refine aa (S BX (S As (nil ?_)));refine ay fun x p=>?_;refine aa (S Fv (S Ld ?_));obtain⟨R,y,b⟩:=vT (jh _) b;refine Sc rfl rfl (ji y) ?_;refine S NB (S Mv (G0 Fv ?_));refine G1 9 rfl Ld ?_;refine gC rfl rfl (fun hC=>aI (k:=10) rfl (dx (f:=(bE .i64)) (s:=g.aX) (TK rfl) rfl rfl rfl)) rfl ?_
 refine G1 11 rfl BI ?_;refine S PO (nil ?_);refine cE b (fun B b=>?_) (fun B b=>?_)
 ·refine aa (S As (nil ?_));exact rt b
 refine sk p ?_;clear p x;refine aP kN (fun(z:Unit)=>[]) (fun z=>H) (fun z=>(some true)=some r) ?_ ?_
 ·intro U C;refine aa (S As (nil ?_));refine block ?_;obtain⟨q,m,b⟩:=cG b;refine bD (TA 1 kN) (fun(z:Nat)=>[(3,.a (.d (.int .i64 ((z:Nat):Int))))]) (fun z=>H) (fun z=>g.aX.l.length-z) (fun z=>Option.bind (nW g (g.aX.l.drop z) z ) q=some r) 0 b wA ?_;rintro i b W E;try dsimp only at b
  refine ay fun F t=>?_;refine aa (S Mv (S Fv (S Ld ?_)));refine sLen (f:=(bE .i64)) (s:=g.aX) (TK rfl) rfl rfl rfl rfl fun X=>?_;refine S BI (nil ?_);refine ah.cL (fun l=>Option.bind (nW g l i ) q=some r) b rfl (fun Y j o b=>?_) (fun o b=>?_)
  ·rw [nW] at b;try dsimp only at o
   have Z:=oD o;refine sk t ?_;clear t F;refine ay fun G u=>?_;refine block ?_;refine ay fun I w=>?_;refine aa (S Fv (S Ld (S Mv ?_)));obtain⟨ab,J,b⟩:=vO j b;refine S (ix (bE .i64) i J) ?_;refine S Ld (S BI (S Mv (G0 Fv ?_)));refine G1 28 rfl Ld ?_;refine G0 Mv ?_;obtain⟨ad,K,b⟩:=eV (fun _=>j) b;refine gC rfl rfl (fun hC=>aI (k:=29) rfl (aI (k:=30) rfl (eO (f:=(bE .i64)) (n:=i) (TK rfl) rfl (TK rfl) rfl rfl rfl (K hC)))) rfl ?_
   refine G1 31 rfl Ld ?_;refine G1 32 rfl BI ?_;refine S PA (nil ?_);refine cO b (fun L b=>?_) (fun L b=>?_)
   ·refine aa (S As (nil ?_));refine ah.ret ?_;repeat (first|refine bM ?_|refine bN ?_)
    have b:=ku m b;obtain rfl:=oJ b;refine bF.bK H rfl ⟨rfl,rfl⟩ ?_;exact(fun _ _ h=>h)
   refine sk w ?_;clear w I;refine aa (S Mv (S BI (S Mv (G0 Fv ?_))));refine G1 38 rfl Ld ?_;refine G0 Mv ?_;obtain⟨ae,M,b⟩:=eV (fun _=>j) b;refine gC rfl rfl (fun hC=>aI (k:=39) rfl (aI (k:=40) rfl (eO (f:=(bE .i64)) (n:=i) (TK rfl) rfl (TK rfl) rfl rfl rfl (M hC)))) rfl ?_;refine G1 41 rfl Ld ?_;refine G1 42 rfl BI ?_;refine S PA (S Mv (G0 Fv ?_));refine G1 46 rfl Ld ?_
   refine G0 Mv ?_;obtain⟨af,N,b⟩:=eR rfl b;refine gC rfl rfl (fun hC=>aI (k:=48) rfl (Fj rfl rfl (N hC))) rfl ?_;obtain⟨ai,O,b⟩:=eR rfl b;refine gC rfl rfl (fun hC=>aI (k:=47) rfl (aI (k:=49) rfl (fI (f:=(bE .i64)) (TK rfl) rfl (TK rfl) rfl rfl rfl (O hC)))) rfl ?_;refine G1 50 rfl Ld ?_;refine G1 51 rfl BI ?_;refine S PA (nil ?_);refine cO b (fun P b=>?_) (fun P b=>?_)
   ·refine aa (S As (nil ?_));refine ah.ret ?_;repeat (first|refine bM ?_|refine bN ?_)
    have b:=ku m b;obtain rfl:=oJ b;refine bF.bK H rfl ⟨rfl,rfl⟩ ?_;exact(fun _ _ h=>h)
   refine sk u ?_;clear u G;refine region ?_;refine S Mv ?_;refine SI ?_;refine S As (nil ?_);exact E _ (i+1) wA b (dl j)
  rw [nW] at b;have b:=ku m b;try dsimp only at b
  refine ah.exit ?_;obtain⟨aj,Q,b⟩:=cC b;have b:=ku Q b;exact C _ () wA b
 rintro _ b;try dsimp only at b
 refine aa (S As (nil ?_));exact rt b
def tQ (b:af):Bool:=(((((decide (b.ak=(0:Int)))&&(decide (b.bl=(0:Int))))&&((b.aV==([]:Bs))))&&(decide (((b.av.l.length:Nat):Int)=(0:Int))))&&(decide (((b.aF.l.length:Nat):Int)=(0:Int))))
def Ac (b:af):Option Bool:=some (tQ b)
theorem O5 (a0:af):Ac a0=some (tQ a0):=rfl
theorem O6 {b:af}{r:Bool}(g:Ac b=some r) (H:ag) :AC Tryz.prog 148 [.agg (af.c b)] H fun v h'=>v=.a (.d (.bool r))/\h'=H:=by
 unfold Ac tQ at g;refine AC.oW 28 [.tmp 2] Tryz.call148 Tryz.func148 ?_;refine aa (S BX (S As (nil ?_)));refine aa (S Fv (S Ld (S BI (S Mv (G0 Fv ?_)))));refine G1 7 rfl Ld ?_;refine G1 8 rfl BI ?_;refine S PA (S Mv (G0 Fv ?_));refine G1 12 rfl Ld ?_;refine G1 13 rfl BS ?_;refine S PA (S Mv (G0 Fv ?_));refine gC rfl rfl (fun hC=>aI (k:=17) rfl (ck (TK rfl) rfl rfl (congrArg (fun x=>some (A.d x)) (af.di _)))) rfl ?_
 refine gC rfl rfl (fun hC=>aI (k:=18) rfl (dx (f:=af.c) (s:=b.av) (TK rfl) rfl rfl rfl)) rfl ?_;refine G1 19 rfl BI ?_;refine S PA (S Mv (G0 Fv ?_));refine G1 23 rfl Ld ?_;refine gC rfl rfl (fun hC=>aI (k:=24) rfl (dx (f:=aM) (s:=b.aF) (TK rfl) rfl rfl rfl)) rfl ?_;refine G1 25 rfl BI ?_;refine S PA (S As (nil ?_));exact rt g
def ii :List Z8->Option (Unit ⊕ Bool)
 | []=>some (Sum.inl ())
 | k::l=>on (k) fun b=>on (bQ b.ai) fun f=>aQ (!(!f)) (pZ b.aO) false fun i=>aQ (!((!f)||(!i))) (nV b.ct) false fun m=>bif (((!f)||(!i))||(!m)) then(some (Sum.inr false)) else(aQ (b.dO) (iB b.eE) false fun g=>aQ ((b.dO&&!(!g))) (we b.eE) false fun j=>on (bif (!(b.dO&&((!g)||(!j)))&&(!b.dO)) then tQ b.eE else false) fun o=>bif ((b.dO&&((!g)||(!j)))||((!b.dO)&&(!o))) then(some (Sum.inr false)) else(ii  (l) ))
def gx (b:(Sl Z8)):Option Bool:=bif (decide ((16:Int)<((b.l.length:Nat):Int))) then(some false) else(Option.bind (ii  b.l ) fun f=>match f with|Sum.inl _=>(on (()) fun _=>some true)|Sum.inr g=>(some g))
def Ad (b:(Sl Z8)):Option Bool:=gx b
theorem GL (a0:(Sl Z8)):Ad a0=gx a0:=rfl
theorem GM {g:Sl Z8}{w0:Option Nat}{r:Bool}(b:Ad g=some r) (H:ag) :AC Tryz.prog 95 [.d (Sl.d 10 Z8.c w0 g)] H fun v h'=>v=.a (.d (.bool r))/\h'=H:=by
 unfold Ad gx at b;refine AC.oW 59 [.tmp 2] Tryz.call95 Tryz.func95 ?_;refine aa (S As (nil ?_));refine ay fun x m=>?_;refine aa (S Mv ?_);refine sLen (f:=Z8.c) (s:=g) (TK rfl) rfl rfl rfl rfl fun U=>?_;refine S BI (nil ?_);refine cE b (fun y b=>?_) (fun y b=>?_)
 ·refine aa (S As (nil ?_));exact rt b
 refine sk m ?_;clear m x;refine aP kN (fun(z:Unit)=>[]) (fun z=>H) (fun z=>(some true)=some r) ?_ ?_
 ·intro W B;refine aa (S As (nil ?_));refine block ?_;obtain⟨o,i,b⟩:=cG b;refine bD (TA 0 kN) (fun(z:Nat)=>[(3,.a (.d (.int .i64 ((z:Nat):Int))))]) (fun z=>H) (fun z=>g.l.length-z) (fun z=>Option.bind (ii  (g.l.drop z) ) o=some r) 0 b wA ?_;rintro p b X C;try dsimp only at b
  refine ay fun E q=>?_;refine aa (S Mv (S Mv ?_));refine sLen (f:=Z8.c) (s:=g) (TK rfl) rfl rfl rfl rfl fun Y=>?_;refine S BI (nil ?_);refine ah.cL (fun l=>Option.bind (ii  l ) o=some r) b rfl (fun Z t j b=>?_) (fun j b=>?_)
  ·rw [ii] at b;try dsimp only at j
   have ab:=oD j;refine sk q ?_;clear q E;refine ay fun F u=>?_;refine block ?_;refine aa (S Mv (S Mv ?_));obtain⟨ad,G,b⟩:=vO t b;refine S (ix Z8.c p G) (S Ld ?_);refine Sl ?_;refine Sf ?_;refine nil ?_;refine bH 4 _ rfl (KA 0 (KA 3 aU.nil)) ?_;refine ay fun I w=>?_;refine aa (S Fv (S Ld ?_));obtain⟨ae,J,b⟩:=vO (jh _) b
   refine Sc rfl rfl (ji J) ?_;refine S NB (S Mv (G0 Fv ?_));refine G1 23 rfl Ld ?_;obtain⟨af,K,b⟩:=eR (GJ _) b;refine dH 24 rfl rfl rfl rfl rfl (fun hC=>GK (K hC)) ?_;refine G1 25 rfl NB ?_;refine S PO (S Mv (G0 Fv ?_));refine G1 29 rfl Ld ?_;obtain⟨ai,L,b⟩:=eR (wk _) b;refine dH 30 rfl rfl rfl rfl rfl (fun hC=>wj (L hC)) ?_;refine G1 31 rfl NB ?_
   refine S PO (nil ?_);refine cO b (fun M b=>?_) (fun M b=>?_)
   ·refine aa (S As (nil ?_));refine ah.ret ?_;repeat (first|refine bM ?_|refine bN ?_)
    have b:=ku i b;obtain rfl:=oJ b;refine bF.bK H rfl ⟨rfl,rfl⟩ ?_;exact(fun _ _ h=>h)
   refine sk w ?_;clear w I;refine aa (S Fv (S Ld (S Mv (G0 Fv ?_))));refine G1 37 rfl Ld ?_;obtain⟨aj,N,b⟩:=eR (GD _) b;refine dH 38 rfl rfl rfl rfl rfl (fun hC=>GF (N hC)) ?_;refine G1 39 rfl NB ?_;refine G1 40 rfl Mv ?_;refine G0 Fv ?_;refine G1 42 rfl Ld ?_;obtain⟨ak,O,b⟩:=eR (GI _) b;refine dH 43 rfl rfl rfl rfl rfl (fun hC=>GH (O hC)) ?_;refine G1 44 rfl NB ?_
   refine gC rfl rfl (fun hC=>aI (k:=41) rfl (pM rfl rfl rfl)) rfl ?_;refine S PA (S Mv (G0 Fv ?_));refine G1 49 rfl Ld ?_;refine G1 50 rfl NB ?_;refine G1 51 rfl Mv ?_;refine G0 Fv ?_;refine G1 53 rfl Ld ?_;obtain⟨al,P,b⟩:=eV (fun _=>(O5 _)) b;refine dH 54 rfl rfl rfl rfl rfl (fun hC=>O6 (P hC)) ?_;refine G1 55 rfl NB ?_;refine gC rfl rfl (fun hC=>aI (k:=52) rfl (gF rfl rfl rfl)) rfl ?_
   refine S PO (nil ?_);refine cO b (fun Q b=>?_) (fun Q b=>?_)
   ·refine aa (S As (nil ?_));refine ah.ret ?_;repeat (first|refine bM ?_|refine bN ?_)
    have b:=ku i b;obtain rfl:=oJ b;refine bF.bK H rfl ⟨rfl,rfl⟩ ?_;exact(fun _ _ h=>h)
   refine sk u ?_;clear u F;refine region ?_;refine S Mv ?_;refine SI ?_;refine S As (nil ?_);exact C _ (p+1) wA b (dl t)
  rw [ii] at b;have b:=ku i b;try dsimp only at b
  refine ah.exit ?_;obtain⟨am,R,b⟩:=cC b;have b:=ku R b;exact B _ () wA b
 rintro _ b;try dsimp only at b
 refine aa (S As (nil ?_));exact rt b
def gK :List Z6->Option (Unit ⊕ Bool)
 | []=>some (Sum.inl ())
 | g::j=>on (g) fun k=>on (bQ k.ai) fun b=>on (bif !(!b) then g else Z6.zero) fun l=>aQ (!(!b)) (gx l.aG) false fun f=>on (bif !((!b)||(!f)) then g else Z6.zero) fun m=>aQ (!((!b)||(!f))) (pZ m.aO) false fun i=>on (bif !(((!b)||(!f))||(!i)) then g else Z6.zero) fun o=>aQ (!(((!b)||(!f))||(!i))) (nV o.ct) false fun p=>bif ((((!b)||(!f))||(!i))||(!p)) then(some (Sum.inr false)) else(gK  (j) )
def iP (b:(Sl Z6)):Option Bool:=bif ((decide (((b.l.length:Nat):Int)<(1:Int)))||(decide ((64:Int)<((b.l.length:Nat):Int)))) then(some false) else(Option.bind (gK  b.l ) fun f=>match f with|Sum.inl _=>(on (()) fun _=>some true)|Sum.inr g=>(some g))
def Ae (b:(Sl Z6)):Option Bool:=iP b
theorem GN (a0:(Sl Z6)):Ae a0=iP a0:=rfl
theorem GO {g:Sl Z6}{w0:Option Nat}{r:Bool}(b:Ae g=some r) (H:ag) :AC Tryz.prog 93 [.d (Sl.d 5 Z6.c w0 g)] H fun v h'=>v=.a (.d (.bool r))/\h'=H:=by
 unfold Ae iP at b;refine AC.oW 52 [.tmp 2] Tryz.call93 Tryz.func93 ?_;refine aa (S As (nil ?_));refine ay fun w o=>?_;refine aa (S Mv ?_);refine sLen (f:=Z6.c) (s:=g) (TK rfl) rfl rfl rfl rfl fun Q=>?_;refine S BI (S Mv (G0 Mv ?_));refine gC rfl rfl (fun hC=>aI (k:=8) rfl (dx (f:=Z6.c) (s:=g) (TK rfl) rfl rfl rfl)) rfl ?_;refine G1 9 rfl BI ?_;refine S PO (nil ?_);refine cE b (fun x b=>?_) (fun x b=>?_)
 ·refine aa (S As (nil ?_));exact rt b
 refine sk o ?_;clear o w;refine aP kN (fun(z:Unit)=>[]) (fun z=>H) (fun z=>(some true)=some r) ?_ ?_
 ·intro R y;refine aa (S As (nil ?_));refine block ?_;obtain⟨p,q,b⟩:=cG b;refine bD (TA 0 kN) (fun(z:Nat)=>[(3,.a (.d (.int .i64 ((z:Nat):Int))))]) (fun z=>H) (fun z=>g.l.length-z) (fun z=>Option.bind (gK  (g.l.drop z) ) p=some r) 0 b wA ?_;rintro i b U B;try dsimp only at b
  refine ay fun C t=>?_;refine aa (S Mv (S Mv ?_));refine sLen (f:=Z6.c) (s:=g) (TK rfl) rfl rfl rfl rfl fun W=>?_;refine S BI (nil ?_);refine ah.cL (fun l=>Option.bind (gK  l ) p=some r) b rfl (fun X j m b=>?_) (fun m b=>?_)
  ·rw [gK] at b;try dsimp only at m
   have Y:=oD m;refine sk t ?_;clear t C;refine ay fun E u=>?_;refine block ?_;refine aa (S Mv (S Mv ?_));obtain⟨Z,F,b⟩:=vO j b;refine S (ix Z6.c i F) (S Fv (S Ld ?_));obtain⟨ab,G,b⟩:=vO (jh _) b;refine Sc rfl rfl (ji G) ?_;refine S NB (S Mv (G0 Mv (G0 Mv ?_)));obtain⟨ad,I,b⟩:=eV (fun _=>j) b;refine gC rfl rfl (fun hC=>aI (k:=26) rfl (aI (k:=27) rfl (eO (f:=Z6.c) (n:=i) (TK rfl) rfl (TK rfl) rfl rfl rfl (I hC)))) rfl ?_
   refine G1 28 rfl Fv ?_;refine G1 29 rfl Ld ?_;obtain⟨ae,J,b⟩:=eR (GL _) b;refine dH 30 rfl rfl rfl rfl rfl (fun hC=>GM (J hC)) ?_;refine G1 31 rfl NB ?_;refine S PO (S Mv (G0 Mv (G0 Mv ?_)));obtain⟨af,K,b⟩:=eV (fun _=>j) b;refine gC rfl rfl (fun hC=>aI (k:=35) rfl (aI (k:=36) rfl (eO (f:=Z6.c) (n:=i) (TK rfl) rfl (TK rfl) rfl rfl rfl (K hC)))) rfl ?_
   refine G1 37 rfl Fv ?_;refine G1 38 rfl Ld ?_;obtain⟨ai,L,b⟩:=eR (GJ _) b;refine dH 39 rfl rfl rfl rfl rfl (fun hC=>GK (L hC)) ?_;refine G1 40 rfl NB ?_;refine S PO (S Mv (G0 Mv (G0 Mv ?_)));obtain⟨aj,M,b⟩:=eV (fun _=>j) b;refine gC rfl rfl (fun hC=>aI (k:=44) rfl (aI (k:=45) rfl (eO (f:=Z6.c) (n:=i) (TK rfl) rfl (TK rfl) rfl rfl rfl (M hC)))) rfl ?_
   refine G1 46 rfl Fv ?_;refine G1 47 rfl Ld ?_;obtain⟨ak,N,b⟩:=eR (wk _) b;refine dH 48 rfl rfl rfl rfl rfl (fun hC=>wj (N hC)) ?_;refine G1 49 rfl NB ?_;refine S PO (nil ?_);refine cO b (fun O b=>?_) (fun O b=>?_)
   ·refine aa (S As (nil ?_));refine ah.ret ?_;repeat (first|refine bM ?_|refine bN ?_)
    have b:=ku q b;obtain rfl:=oJ b;refine bF.bK H rfl ⟨rfl,rfl⟩ ?_;exact(fun _ _ h=>h)
   refine sk u ?_;clear u E;refine region ?_;refine S Mv ?_;refine SI ?_;refine S As (nil ?_);exact B _ (i+1) wA b (dl j)
  rw [gK] at b;have b:=ku q b;try dsimp only at b
  refine ah.exit ?_;obtain⟨al,P,b⟩:=cC b;have b:=ku P b;exact y _ () wA b
 rintro _ b;try dsimp only at b
 refine aa (S As (nil ?_));exact rt b
def nX (g:Bool):List Z9->Option (Unit ⊕ Bool)
 | []=>some (Sum.inl ())
 | f::j=>on (f) fun k=>on (bQ k.ai) fun b=>on (bif !(!b) then f else Z9.zero) fun m=>aQ (!(!b)) (nV m.ct) false fun i=>on (bif (!((!b)||(!i))&&g) then f else Z9.zero) fun o=>bif (((!b)||(!i))||(g&&(decide ((0:Int)<((o.ct.l.length:Nat):Int))))) then(some (Sum.inr false)) else(nX g (j) )
def kM (b:(Sl Z9)) (i:Bool):Option Bool:=bif ((decide (((b.l.length:Nat):Int)<(1:Int)))||(decide ((64:Int)<((b.l.length:Nat):Int)))) then(some false) else(Option.bind (nX i b.l ) fun f=>match f with|Sum.inl _=>(on (()) fun _=>some true)|Sum.inr g=>(some g))
def Af (b:(Sl Z9)) (f:Bool):Option Bool:=kM b f
theorem GP (a0:(Sl Z9)) (a1:Bool):Af a0 a1=kM a0 a1:=rfl
theorem GQ {g:Sl Z9}{m:Bool}{w0:Option Nat}{r:Bool}(b:Af g m=some r) (H:ag) :AC Tryz.prog 94 [.d (Sl.d 2 Z9.c w0 g),.d (.bool m)] H fun v h'=>v=.a (.d (.bool r))/\h'=H:=by
 unfold Af kM at b;refine AC.oW 48 [.tmp 4] Tryz.call94 Tryz.func94 ?_;refine aa (S As (nil ?_));refine ay fun x p=>?_;refine aa (S Mv ?_);refine sLen (f:=Z9.c) (s:=g) (TK rfl) rfl rfl rfl rfl fun P=>?_;refine S BI (S Mv (G0 Mv ?_));refine gC rfl rfl (fun hC=>aI (k:=10) rfl (dx (f:=Z9.c) (s:=g) (TK rfl) rfl rfl rfl)) rfl ?_;refine G1 11 rfl BI ?_;refine S PO (nil ?_);refine cE b (fun y b=>?_) (fun y b=>?_)
 ·refine aa (S As (nil ?_));exact rt b
 refine sk p ?_;clear p x;refine aP kN (fun(z:Unit)=>[]) (fun z=>H) (fun z=>(some true)=some r) ?_ ?_
 ·intro Q B;refine aa (S As (nil ?_));refine block ?_;obtain⟨q,t,b⟩:=cG b;refine bD (TA 0 (TA 1 kN)) (fun(z:Nat)=>[(5,.a (.d (.int .i64 ((z:Nat):Int))))]) (fun z=>H) (fun z=>g.l.length-z) (fun z=>Option.bind (nX m (g.l.drop z) ) q=some r) 0 b wA ?_;rintro i b R C;try dsimp only at b
  refine ay fun E u=>?_;refine aa (S Mv (S Mv ?_));refine sLen (f:=Z9.c) (s:=g) (TK rfl) rfl rfl rfl rfl fun U=>?_;refine S BI (nil ?_);refine ah.cL (fun l=>Option.bind (nX m l ) q=some r) b rfl (fun W j o b=>?_) (fun o b=>?_)
  ·rw [nX] at b;try dsimp only at o
   have X:=oD o;refine sk u ?_;clear u E;refine ay fun F w=>?_;refine block ?_;refine aa (S Mv (S Mv ?_));obtain⟨Y,G,b⟩:=vO j b;refine S (ix Z9.c i G) (S Fv (S Ld ?_));obtain⟨Z,I,b⟩:=vO (jh _) b;refine Sc rfl rfl (ji I) ?_;refine S NB (S Mv (G0 Mv (G0 Mv ?_)));obtain⟨ab,J,b⟩:=eV (fun _=>j) b;refine gC rfl rfl (fun hC=>aI (k:=28) rfl (aI (k:=29) rfl (eO (f:=Z9.c) (n:=i) (TK rfl) rfl (TK rfl) rfl rfl rfl (J hC)))) rfl ?_
   refine G1 30 rfl Fv ?_;refine G1 31 rfl Ld ?_;obtain⟨ad,K,b⟩:=eR (wk _) b;refine dH 32 rfl rfl rfl rfl rfl (fun hC=>wj (K hC)) ?_;refine G1 33 rfl NB ?_;refine S PO (S Mv (G0 Mv ?_));refine G1 37 rfl Mv ?_;refine G0 Mv (G0 Mv ?_);obtain⟨L,M,b⟩:=eV (fun _=>j) b;refine gC rfl rfl (fun hC=>aI (k:=39) rfl (aI (k:=40) rfl (eO (f:=Z9.c) (n:=i) (TK rfl) rfl (TK rfl) rfl rfl rfl (M hC)))) rfl ?_
   refine G1 41 rfl Fv ?_;refine G1 42 rfl Ld ?_;refine gC rfl rfl (fun hC=>aI (k:=43) rfl (dx (f:=aN.c) (s:=L.ct) (TK rfl) rfl rfl rfl)) rfl ?_;refine G1 44 rfl BI ?_;refine gC rfl rfl (fun hC=>aI (k:=38) rfl (gF rfl rfl rfl)) rfl ?_;refine S PO (nil ?_);refine cO b (fun N b=>?_) (fun N b=>?_)
   ·refine aa (S As (nil ?_));refine ah.ret ?_;repeat (first|refine bM ?_|refine bN ?_)
    have b:=ku t b;obtain rfl:=oJ b;refine bF.bK H rfl ⟨rfl,rfl⟩ ?_;exact(fun _ _ h=>h)
   refine sk w ?_;clear w F;refine region ?_;refine S Mv ?_;refine SI ?_;refine S As (nil ?_);exact C _ (i+1) wA b (dl j)
  rw [nX] at b;have b:=ku t b;try dsimp only at b
  refine ah.exit ?_;obtain⟨ae,O,b⟩:=cC b;have b:=ku O b;exact B _ () wA b
 rintro _ b;try dsimp only at b
 refine aa (S As (nil ?_));exact rt b
end Go.Proofs
