import Derived.Test.YtdlobimnfmjonaaGreatDoorE3
import Derived.Test.YtdlobimnfmjonaaGreatDoorTab
set_option maxRecDepth 100000
set_option maxHeartbeats 2000000
set_option linter.unusedVariables false
set_option linter.unusedSimpArgs false
namespace Go.Proofs
open Go Go.Ab
inductive Z9 where
 | mk (ak:Int) (bz:Int) (br:Bs) (Ym:Bool) (Yn:List Z9) (aW:(Sl Bs))
def Z9.ak:Z9->Int|.mk x _ _ _ _ _=>x
def Z9.bz:Z9->Int|.mk _ x _ _ _ _=>x
def Z9.br:Z9->Bs|.mk _ _ x _ _ _=>x
def Z9.aG:Z9->(Sl Z9)|.mk _ _ _ nl l _=>⟨nl,l⟩
def Z9.aW:Z9->(Sl Bs)|.mk _ _ _ _ _ x=>x
noncomputable def Z9.HZ:Z9->D:=@Z9.rec (fun _=>D) (fun _=>List (List D)) (fun _ _ _ nl _ _ b=>.slice 5 none nl b) [] (fun v _ b f=>((bI .i64) v.ak++(bI .i64) v.bz++aB v.br++[b]++(fun s=>[Sl.d 1 aB none s]) v.aW)::f)
noncomputable def Z9.c (v:Z9):List D:=(bI .i64) v.ak++(bI .i64) v.bz++aB v.br++[v.HZ]++(fun s=>[Sl.d 1 aB none s]) v.aW
theorem Z9.eN (v:Z9):v.HZ=Sl.d 5 Z9.c none v.aG:=by
 cases v with
 | mk f g j nl l k =>
  show D.slice 5 none nl _=D.slice 5 none nl (l.map Z9.c)
  congr 1
  induction l with
  | nil=>rfl
  | cons a r b=>exact congrArg (Z9.c a::·) b
noncomputable def Z9.cu (v:Z9):List D:=(bI .i64) v.ak++(bI .i64) v.bz++aB v.br++[Sl.d 5 Z9.c none v.aG]++(fun s=>[Sl.d 1 aB none s]) v.aW
theorem Z9.l8 (v:Z9):v.c=v.cu:=by unfold Z9.c Z9.cu; rw [Z9.eN]
def Z9.zero:Z9:=.mk (0:Int) (0:Int) ([]:Bs) true [] (Sl.nil:Sl Bs)
structure bU where
 aa:Bs
 ir:Z9
noncomputable def bU.c (x:bU):List D:=aB x.aa++Z9.c x.ir
def bU.zero:bU:=⟨([]:Bs),Z9.zero⟩
structure aD where
 aa:Bs
 az:(Sl bU)
noncomputable def aD.c (x:aD):List D:=[.str x.aa,Sl.d 6 bU.c none x.az]
def aD.zero:aD:=⟨([]:Bs),(Sl.nil:Sl bU)⟩
structure aL where
 aa:Bs
 aK:(Sl Int)
noncomputable def aL.c (x:aL):List D:=[.str x.aa,Sl.d 1 (bI .i64) none x.aK]
def aL.zero:aL:=⟨([]:Bs),(Sl.nil:Sl Int)⟩
structure Z7 where
 aa:Bs
 ax:aL
 b_:Bool
 dm:Z9
 aM:(Sl aD)
noncomputable def Z7.c (x:Z7):List D:=aB x.aa++aL.c x.ax++vF x.b_++Z9.c x.dm++(fun s=>[Sl.d 2 aD.c none s]) x.aM
def Z7.zero:Z7:=⟨([]:Bs),aL.zero,false,Z9.zero,(Sl.nil:Sl aD)⟩
structure Z6 where
 aa:Bs
 az:(Sl Z7)
 ax:aL
 aM:(Sl aD)
noncomputable def Z6.c (x:Z6):List D:=aB x.aa++(fun s=>[Sl.d 10 Z7.c none s]) x.az++aL.c x.ax++(fun s=>[Sl.d 2 aD.c none s]) x.aM
def Z6.zero:Z6:=⟨([]:Bs),(Sl.nil:Sl Z7),aL.zero,(Sl.nil:Sl aD)⟩
structure Z8 where
 aa:Bs
 aM:(Sl aD)
noncomputable def Z8.c (x:Z8):List D:=[.str x.aa,Sl.d 2 aD.c none x.aM]
def Z8.zero:Z8:=⟨([]:Bs),(Sl.nil:Sl aD)⟩
structure ag where
 ak:Int
 aa:Bs
 aH:(Sl Bs)
 aM:(Sl aD)
 an:(Sl Z6)
 au:(Sl Z8)
 ay:(Sl Z7)
noncomputable def ag.c (x:ag):List D:=[.int .i64 x.ak,.str x.aa,Sl.d 1 aB none x.aH,Sl.d 2 aD.c none x.aM,Sl.d 5 Z6.c none x.an,Sl.d 2 Z8.c none x.au,Sl.d 10 Z7.c none x.ay]
def ag.zero:ag:=⟨(0:Int),([]:Bs),(Sl.nil:Sl Bs),(Sl.nil:Sl aD),(Sl.nil:Sl Z6),(Sl.nil:Sl Z8),(Sl.nil:Sl Z7)⟩
structure ai where
 aj:(Sl ag)
noncomputable def ai.c (x:ai):List D:=[Sl.d 7 ag.c none x.aj]
def ai.zero:ai:=⟨(Sl.nil:Sl ag)⟩
structure Z5 where
 yu:Int
 yw:Bs
def Z5.c (x:Z5):List D:=[.int .i64 x.yu,.str x.yw]
structure Z2 where
 yx:(Sl Bs)
 H6:(Sl Bs)
noncomputable def Z2.c (x:Z2):List D:=[Sl.d 1 aB none x.yx,Sl.d 1 aB none x.H6]
structure Z4 where
 Fd:ai
 bE:(Sl Z5)
noncomputable def Z4.cg (t1:Option Nat) (x:Z4):List D:=ai.c x.Fd++[Sl.d 2 Z5.c t1 x.bE]
structure Z0 where
 Fd:ai
 dR:(Sl Z5)
noncomputable def Z0.cg (t1:Option Nat) (x:Z0):List D:=ai.c x.Fd++[Sl.d 2 Z5.c t1 x.dR]
structure Z1 where
 Fd:ai
 fc:Z9
 oK:Bool
 uw:Int
noncomputable def Z1.c (x:Z1):List D:=ai.c x.Fd++Z9.c x.fc++vF x.oK++(bI .i64) x.uw
structure Z3 where
 Fd:ai
 fc:Z9
 fG:Bool
 jk:Int
 cV:Int
noncomputable def Z3.c (x:Z3):List D:=ai.c x.Fd++Z9.c x.fc++vF x.fG++(bI .i64) x.jk++(bI .i64) x.cV
end Go.Proofs
namespace Go.Proofs
open Go Go.Ab Go.RowKit
section
variable {H:Type}{B:DataW H->Nat}(hB:yq B)
noncomputable def Z9.sz:Z9->Nat:=@Z9.rec (fun _=>Nat) (fun _=>Nat) (fun f g j nl l k b=>(fun _=>1) f+((fun _=>1) g+(Bs.sz j+((1+b)+((Sl.sz Bs.sz) k+(0)))))) 0 (fun _ _ b m=>b+m)
noncomputable def Z9.H7:List Z9->Nat:=@Z9.rec_1 (fun _=>Nat) (fun _=>Nat) (fun f g j nl l k b=>(fun _=>1) f+((fun _=>1) g+(Bs.sz j+((1+b)+((Sl.sz Bs.sz) k+(0)))))) 0 (fun _ _ b m=>b+m)
theorem Z9.P7 (l:List Z9):Z9.H7 l=(l.map Z9.sz).sum:=by
 induction l with
 | nil=>rfl
 | cons a r b=>exact congrArg (Z9.sz a+·) b
theorem Z9.H8 (x:Z9):x.sz=(fun _=>1) x.ak+((fun _=>1) x.bz+(Bs.sz x.br+((Sl.sz Z9.sz) x.aG+((Sl.sz Bs.sz) x.aW+(0))))):=by
 cases x with
 | mk b f g nl l j =>
  show (fun _=>1) b+((fun _=>1) f+(Bs.sz g+((1+Z9.H7 l)+((Sl.sz Bs.sz) j+(0)))))=_;rw [Z9.P7]; rfl
def Z9.wf:Z9->Prop:=@Z9.rec (fun _=>Prop) (fun _=>Prop) (fun f g j nl l k b=>i64 f/\(i64 g/\((fun _=>True) j/\(((nl=true->l=[])/\l.length<=cC/\b)/\((Sl.wf (fun _=>True)) k/\(True)))))) True (fun _ _ b m=>b/\m)
def Z9.DR:List Z9->Prop:=@Z9.rec_1 (fun _=>Prop) (fun _=>Prop) (fun f g j nl l k b=>i64 f/\(i64 g/\((fun _=>True) j/\(((nl=true->l=[])/\l.length<=cC/\b)/\((Sl.wf (fun _=>True)) k/\(True)))))) True (fun _ _ b m=>b/\m)
theorem Z9.P8 (l:List Z9):Z9.DR l↔∀x∈l,Z9.wf x:=by
 induction l with
 | nil=>exact⟨fun _ _ h=>(by cases h),fun _=>trivial⟩
 | cons a r b =>
  show (Z9.wf a/\Z9.DR r)↔_;rw [b]; simp
theorem Z9.ux (x:Z9):x.wf↔i64 x.ak/\(i64 x.bz/\((fun _=>True) x.br/\((Sl.wf Z9.wf) x.aG/\((Sl.wf (fun _=>True)) x.aW/\(True))))):=by
 cases x with
 | mk b f g nl l j =>
  show (i64 b/\(i64 f/\((fun _=>True) g/\(((nl=true->l=[])/\l.length<=cC/\Z9.DR l)/\((Sl.wf (fun _=>True)) j/\(True))))))↔_;rw [Z9.P8]; exact Iff.rfl
include hB in
theorem H9:∀N,dJ Tryz.prog B N 72 Z9.c Z9.sz Z9.wf:=by
 have key:∀N M,M<=N->dJ Tryz.prog B M 72 Z9.c Z9.sz Z9.wf:=by
  intro N;induction N with
  | zero=>intro M f; rw [Nat.le_zero.1 f]; exact .zero
  | succ N g =>
   intro M f;cases M with
   | zero=>exact .zero
   | succ b =>
    have hit:dJ Tryz.prog B b 70 (fun s:Sl Z9=>[Sl.d 5 Z9.c none s]) (Sl.sz Z9.sz) (Sl.wf Z9.wf):=by
     cases b with
     | zero=>exact .zero
     | succ M=>exact dY.HU hB (Tryz.bN 70 _ rfl) rfl (Tryz.bN 72 _ rfl) rfl (by decide) (fun _=>rfl) (g M (by omega))
    refine dJ.struct hB (Tryz.bN 72 _ rfl) rfl (dD.cons (n:=5) (o:=0) (o':=1) (Tryz.bN 3 _ rfl) rfl ((dY.int hB (Tryz.bN 3 _ rfl) rfl) b) (dD.cons (n:=5) (o:=1) (o':=2) (Tryz.bN 3 _ rfl) rfl ((dY.int hB (Tryz.bN 3 _ rfl) rfl) b) (dD.cons (n:=5) (o:=2) (o':=3) (Tryz.bN 9 _ rfl) rfl ((dY.str hB (Tryz.bN 9 _ rfl) rfl) b) (dD.cons (n:=5) (o:=3) (o':=4) (Tryz.bN 70 _ rfl) rfl hit (dD.cons (n:=5) (o:=4) (o':=5) (Tryz.bN 25 _ rfl) rfl ((dY.slice hB (Tryz.bN 25 _ rfl) rfl (Tryz.bN 9 _ rfl) rfl (by decide) (fun _=>rfl) (dY.str hB (Tryz.bN 9 _ rfl) rfl)) b) (dD.nil (n:=5))))))) (fun a=>Z9.mk a.1 a.2.1 a.2.2.1 a.2.2.2.1.nl a.2.2.2.1.l a.2.2.2.2.1) (fun a=>?_) (fun a=>by rw [Z9.H8]; exact Nat.le_refl _) (fun a h=>by rw [Z9.ux]; exact h)
    unfold Z9.c;rw [Z9.eN];rfl
 exact fun N=>key N N (Nat.le_refl _)
noncomputable def bU.sz (x:bU):Nat:=Bs.sz x.aa+(Z9.sz x.ir+(0))
def bU.wf (x:bU):Prop:=(fun _=>True) x.aa/\(Z9.wf x.ir/\(True))
include hB in
theorem P9:∀N,dJ Tryz.prog B N 74 bU.c bU.sz bU.wf:=rV.struct hB (Tryz.bN 74 _ rfl) rfl (fun b=>(dD.cons (n:=6) (o:=0) (o':=1) (Tryz.bN 9 _ rfl) rfl ((dY.str hB (Tryz.bN 9 _ rfl) rfl) b) (dD.cons (n:=6) (o:=1) (o':=6) (Tryz.bN 72 _ rfl) rfl ((H9 hB) b) (dD.nil (n:=6))))) (fun a=>(⟨a.1,a.2.1⟩:bU)) (fun _=>rfl) (fun _=>Nat.le_refl _) (fun _ h=>h)
noncomputable def aD.sz (x:aD):Nat:=Bs.sz x.aa+((Sl.sz bU.sz) x.az+(0))
def aD.wf (x:aD):Prop:=(fun _=>True) x.aa/\((Sl.wf bU.wf) x.az/\(True))
include hB in
theorem AW:∀N,dJ Tryz.prog B N 77 aD.c aD.sz aD.wf:=rV.struct hB (Tryz.bN 77 _ rfl) rfl (fun b=>(dD.cons (n:=2) (o:=0) (o':=1) (Tryz.bN 9 _ rfl) rfl ((dY.str hB (Tryz.bN 9 _ rfl) rfl) b) (dD.cons (n:=2) (o:=1) (o':=2) (Tryz.bN 75 _ rfl) rfl ((dY.slice hB (Tryz.bN 75 _ rfl) rfl (Tryz.bN 74 _ rfl) rfl (by decide) (fun _=>rfl) (P9 hB)) b) (dD.nil (n:=2))))) (fun a=>(⟨a.1,a.2.1⟩:aD)) (fun _=>rfl) (fun _=>Nat.le_refl _) (fun _ h=>h)
noncomputable def aL.sz (x:aL):Nat:=Bs.sz x.aa+((Sl.sz (fun _=>1)) x.aK+(0))
def aL.wf (x:aL):Prop:=(fun _=>True) x.aa/\((Sl.wf i64) x.aK/\(True))
include hB in
theorem H_:∀N,dJ Tryz.prog B N 46 aL.c aL.sz aL.wf:=rV.struct hB (Tryz.bN 46 _ rfl) rfl (fun b=>(dD.cons (n:=2) (o:=0) (o':=1) (Tryz.bN 9 _ rfl) rfl ((dY.str hB (Tryz.bN 9 _ rfl) rfl) b) (dD.cons (n:=2) (o:=1) (o':=2) (Tryz.bN 44 _ rfl) rfl ((dY.slice hB (Tryz.bN 44 _ rfl) rfl (Tryz.bN 3 _ rfl) rfl (by decide) (fun _=>rfl) (dY.int hB (Tryz.bN 3 _ rfl) rfl)) b) (dD.nil (n:=2))))) (fun a=>(⟨a.1,a.2.1⟩:aL)) (fun _=>rfl) (fun _=>Nat.le_refl _) (fun _ h=>h)
noncomputable def Z7.sz (x:Z7):Nat:=Bs.sz x.aa+(aL.sz x.ax+((fun _=>1) x.b_+(Z9.sz x.dm+((Sl.sz aD.sz) x.aM+(0)))))
def Z7.wf (x:Z7):Prop:=(fun _=>True) x.aa/\(aL.wf x.ax/\((fun _=>True) x.b_/\(Z9.wf x.dm/\((Sl.wf aD.wf) x.aM/\(True)))))
include hB in
theorem Ia:∀N,dJ Tryz.prog B N 81 Z7.c Z7.sz Z7.wf:=rV.struct hB (Tryz.bN 81 _ rfl) rfl (fun b=>(dD.cons (n:=10) (o:=0) (o':=1) (Tryz.bN 9 _ rfl) rfl ((dY.str hB (Tryz.bN 9 _ rfl) rfl) b) (dD.cons (n:=10) (o:=1) (o':=3) (Tryz.bN 46 _ rfl) rfl ((H_ hB) b) (dD.cons (n:=10) (o:=3) (o':=4) (Tryz.bN 4 _ rfl) rfl ((dY.bool hB (Tryz.bN 4 _ rfl) rfl) b) (dD.cons (n:=10) (o:=4) (o':=9) (Tryz.bN 72 _ rfl) rfl ((H9 hB) b) (dD.cons (n:=10) (o:=9) (o':=10) (Tryz.bN 35 _ rfl) rfl ((dY.slice hB (Tryz.bN 35 _ rfl) rfl (Tryz.bN 77 _ rfl) rfl (by decide) (fun _=>rfl) (AW hB)) b) (dD.nil (n:=10)))))))) (fun a=>(⟨a.1,a.2.1,a.2.2.1,a.2.2.2.1,a.2.2.2.2.1⟩:Z7)) (fun _=>rfl) (fun _=>Nat.le_refl _) (fun _ h=>h)
noncomputable def Z6.sz (x:Z6):Nat:=Bs.sz x.aa+((Sl.sz Z7.sz) x.az+(aL.sz x.ax+((Sl.sz aD.sz) x.aM+(0))))
def Z6.wf (x:Z6):Prop:=(fun _=>True) x.aa/\((Sl.wf Z7.wf) x.az/\(aL.wf x.ax/\((Sl.wf aD.wf) x.aM/\(True))))
include hB in
theorem P_:∀N,dJ Tryz.prog B N 49 Z6.c Z6.sz Z6.wf:=rV.struct hB (Tryz.bN 49 _ rfl) rfl (fun b=>(dD.cons (n:=5) (o:=0) (o':=1) (Tryz.bN 9 _ rfl) rfl ((dY.str hB (Tryz.bN 9 _ rfl) rfl) b) (dD.cons (n:=5) (o:=1) (o':=2) (Tryz.bN 38 _ rfl) rfl ((dY.slice hB (Tryz.bN 38 _ rfl) rfl (Tryz.bN 81 _ rfl) rfl (by decide) (fun _=>rfl) (Ia hB)) b) (dD.cons (n:=5) (o:=2) (o':=4) (Tryz.bN 46 _ rfl) rfl ((H_ hB) b) (dD.cons (n:=5) (o:=4) (o':=5) (Tryz.bN 35 _ rfl) rfl ((dY.slice hB (Tryz.bN 35 _ rfl) rfl (Tryz.bN 77 _ rfl) rfl (by decide) (fun _=>rfl) (AW hB)) b) (dD.nil (n:=5))))))) (fun a=>(⟨a.1,a.2.1,a.2.2.1,a.2.2.2.1⟩:Z6)) (fun _=>rfl) (fun _=>Nat.le_refl _) (fun _ h=>h)
noncomputable def Z8.sz (x:Z8):Nat:=Bs.sz x.aa+((Sl.sz aD.sz) x.aM+(0))
def Z8.wf (x:Z8):Prop:=(fun _=>True) x.aa/\((Sl.wf aD.wf) x.aM/\(True))
include hB in
theorem Qb:∀N,dJ Tryz.prog B N 68 Z8.c Z8.sz Z8.wf:=rV.struct hB (Tryz.bN 68 _ rfl) rfl (fun b=>(dD.cons (n:=2) (o:=0) (o':=1) (Tryz.bN 9 _ rfl) rfl ((dY.str hB (Tryz.bN 9 _ rfl) rfl) b) (dD.cons (n:=2) (o:=1) (o':=2) (Tryz.bN 35 _ rfl) rfl ((dY.slice hB (Tryz.bN 35 _ rfl) rfl (Tryz.bN 77 _ rfl) rfl (by decide) (fun _=>rfl) (AW hB)) b) (dD.nil (n:=2))))) (fun a=>(⟨a.1,a.2.1⟩:Z8)) (fun _=>rfl) (fun _=>Nat.le_refl _) (fun _ h=>h)
noncomputable def ag.sz (x:ag):Nat:=(fun _=>1) x.ak+(Bs.sz x.aa+((Sl.sz Bs.sz) x.aH+((Sl.sz aD.sz) x.aM+((Sl.sz Z6.sz) x.an+((Sl.sz Z8.sz) x.au+((Sl.sz Z7.sz) x.ay+(0)))))))
def ag.wf (x:ag):Prop:=i64 x.ak/\((fun _=>True) x.aa/\((Sl.wf (fun _=>True)) x.aH/\((Sl.wf aD.wf) x.aM/\((Sl.wf Z6.wf) x.an/\((Sl.wf Z8.wf) x.au/\((Sl.wf Z7.wf) x.ay/\(True)))))))
include hB in
theorem Qd:∀N,dJ Tryz.prog B N 40 ag.c ag.sz ag.wf:=rV.struct hB (Tryz.bN 40 _ rfl) rfl (fun b=>(dD.cons (n:=7) (o:=0) (o':=1) (Tryz.bN 3 _ rfl) rfl ((dY.int hB (Tryz.bN 3 _ rfl) rfl) b) (dD.cons (n:=7) (o:=1) (o':=2) (Tryz.bN 9 _ rfl) rfl ((dY.str hB (Tryz.bN 9 _ rfl) rfl) b) (dD.cons (n:=7) (o:=2) (o':=3) (Tryz.bN 25 _ rfl) rfl ((dY.slice hB (Tryz.bN 25 _ rfl) rfl (Tryz.bN 9 _ rfl) rfl (by decide) (fun _=>rfl) (dY.str hB (Tryz.bN 9 _ rfl) rfl)) b) (dD.cons (n:=7) (o:=3) (o':=4) (Tryz.bN 35 _ rfl) rfl ((dY.slice hB (Tryz.bN 35 _ rfl) rfl (Tryz.bN 77 _ rfl) rfl (by decide) (fun _=>rfl) (AW hB)) b) (dD.cons (n:=7) (o:=4) (o':=5) (Tryz.bN 36 _ rfl) rfl ((dY.slice hB (Tryz.bN 36 _ rfl) rfl (Tryz.bN 49 _ rfl) rfl (by decide) (fun _=>rfl) (P_ hB)) b) (dD.cons (n:=7) (o:=5) (o':=6) (Tryz.bN 37 _ rfl) rfl ((dY.slice hB (Tryz.bN 37 _ rfl) rfl (Tryz.bN 68 _ rfl) rfl (by decide) (fun _=>rfl) (Qb hB)) b) (dD.cons (n:=7) (o:=6) (o':=7) (Tryz.bN 38 _ rfl) rfl ((dY.slice hB (Tryz.bN 38 _ rfl) rfl (Tryz.bN 81 _ rfl) rfl (by decide) (fun _=>rfl) (Ia hB)) b) (dD.nil (n:=7)))))))))) (fun a=>(⟨a.1,a.2.1,a.2.2.1,a.2.2.2.1,a.2.2.2.2.1,a.2.2.2.2.2.1,a.2.2.2.2.2.2.1⟩:ag)) (fun _=>rfl) (fun _=>Nat.le_refl _) (fun _ h=>h)
noncomputable def ai.sz (x:ai):Nat:=(Sl.sz ag.sz) x.aj+(0)
def ai.wf (x:ai):Prop:=(Sl.wf ag.wf) x.aj/\(True)
include hB in
theorem Qf:∀N,dJ Tryz.prog B N 24 ai.c ai.sz ai.wf:=rV.struct hB (Tryz.bN 24 _ rfl) rfl (fun b=>(dD.cons (n:=1) (o:=0) (o':=1) (Tryz.bN 22 _ rfl) rfl ((dY.slice hB (Tryz.bN 22 _ rfl) rfl (Tryz.bN 40 _ rfl) rfl (by decide) (fun _=>rfl) (Qd hB)) b) (dD.nil (n:=1)))) (fun a=>(⟨a.1⟩:ai)) (fun _=>rfl) (fun _=>Nat.le_refl _) (fun _ h=>h)
end
theorem Z9.bA (x:Z9):x.sz=0+1+1+Bs.sz x.br+(Sl.sz Z9.sz) x.aG+(Sl.sz Bs.sz) x.aW:=by
 rw [Z9.H8]; try dsimp only
 omega
theorem Z9.pos (x:Z9):1<=x.sz:=by
 rw [Z9.bA]; have:=Bs.lm x.br; omega
theorem Z9.Qg {x:Z9}(h:x.wf):i64 x.ak:=((Z9.ux x).1 h).1
theorem Z9.Qh {x:Z9}(h:x.wf):i64 x.bz:=((Z9.ux x).1 h).2.1
theorem Z9.DS {x:Z9}(h:x.wf):(Sl.wf Z9.wf) x.aG:=((Z9.ux x).1 h).2.2.2.1
theorem Z9.Ib {x:Z9}(h:x.wf):(Sl.wf (fun _=>True)) x.aW:=((Z9.ux x).1 h).2.2.2.2.1
theorem bU.bA (x:bU):x.sz=0+Bs.sz x.aa+Z9.sz x.ir:=by
 unfold bU.sz; try dsimp only
 omega
theorem bU.pos (x:bU):1<=x.sz:=by
 rw [bU.bA]; have:=Bs.lm x.aa; omega
theorem bU.Ic {x:bU}(h:x.wf):Z9.wf x.ir:=h.2.1
theorem aD.bA (x:aD):x.sz=0+Bs.sz x.aa+(Sl.sz bU.sz) x.az:=by
 unfold aD.sz; try dsimp only
 omega
theorem aD.pos (x:aD):1<=x.sz:=by
 rw [aD.bA]; have:=Bs.lm x.aa; omega
theorem aD.l9 {x:aD}(h:x.wf):(Sl.wf bU.wf) x.az:=h.2.1
theorem aL.bA (x:aL):x.sz=0+Bs.sz x.aa+(Sl.sz (fun _=>1)) x.aK:=by
 unfold aL.sz; try dsimp only
 omega
theorem aL.Ie {x:aL}(h:x.wf):(Sl.wf i64) x.aK:=h.2.1
theorem Z7.bA (x:Z7):x.sz=0+Bs.sz x.aa+aL.sz x.ax+1+Z9.sz x.dm+(Sl.sz aD.sz) x.aM:=by
 unfold Z7.sz; try dsimp only
 omega
theorem Z7.pos (x:Z7):1<=x.sz:=by
 rw [Z7.bA]; have:=Bs.lm x.aa; omega
theorem Z7.vQ {x:Z7}(h:x.wf):aL.wf x.ax:=h.2.1
theorem Z7.Ig {x:Z7}(h:x.wf):Z9.wf x.dm:=h.2.2.2.1
theorem Z7.jm {x:Z7}(h:x.wf):(Sl.wf aD.wf) x.aM:=h.2.2.2.2.1
theorem Z6.bA (x:Z6):x.sz=0+Bs.sz x.aa+(Sl.sz Z7.sz) x.az+aL.sz x.ax+(Sl.sz aD.sz) x.aM:=by
 unfold Z6.sz; try dsimp only
 omega
theorem Z6.pos (x:Z6):1<=x.sz:=by
 rw [Z6.bA]; have:=Bs.lm x.aa; omega
theorem Z6.l9 {x:Z6}(h:x.wf):(Sl.wf Z7.wf) x.az:=h.2.1
theorem Z6.vQ {x:Z6}(h:x.wf):aL.wf x.ax:=h.2.2.1
theorem Z6.jm {x:Z6}(h:x.wf):(Sl.wf aD.wf) x.aM:=h.2.2.2.1
theorem Z8.bA (x:Z8):x.sz=0+Bs.sz x.aa+(Sl.sz aD.sz) x.aM:=by
 unfold Z8.sz; try dsimp only
 omega
theorem Z8.pos (x:Z8):1<=x.sz:=by
 rw [Z8.bA]; have:=Bs.lm x.aa; omega
theorem Z8.jm {x:Z8}(h:x.wf):(Sl.wf aD.wf) x.aM:=h.2.1
theorem ag.bA (x:ag):x.sz=0+1+Bs.sz x.aa+(Sl.sz Bs.sz) x.aH+(Sl.sz aD.sz) x.aM+(Sl.sz Z6.sz) x.an+(Sl.sz Z8.sz) x.au+(Sl.sz Z7.sz) x.ay:=by
 unfold ag.sz; try dsimp only
 omega
theorem ag.pos (x:ag):1<=x.sz:=by
 rw [ag.bA]; have:=Bs.lm x.aa; omega
theorem ag.vR {x:ag}(h:x.wf):(Sl.wf (fun _=>True)) x.aH:=h.2.2.1
theorem ag.jm {x:ag}(h:x.wf):(Sl.wf aD.wf) x.aM:=h.2.2.2.1
theorem ag.qh {x:ag}(h:x.wf):(Sl.wf Z6.wf) x.an:=h.2.2.2.2.1
theorem ag.rW {x:ag}(h:x.wf):(Sl.wf Z8.wf) x.au:=h.2.2.2.2.2.1
theorem ag.uy {x:ag}(h:x.wf):(Sl.wf Z7.wf) x.ay:=h.2.2.2.2.2.2.1
theorem ai.bA (x:ai):x.sz=0+(Sl.sz ag.sz) x.aj:=by
 unfold ai.sz; try dsimp only
 omega
theorem ai.DT {x:ai}(h:x.wf):(Sl.wf ag.wf) x.aj:=h.1
end Go.Proofs
namespace Go.Proofs
open Go Go.Ab
open aJ aq ah dN fT
attribute [local irreducible] aJ aN ah aq
variable {av:bR}
def oL (f:Bs):List ag->Unit ⊕ ((ag×Bool))
 | []=>Sum.inl ()
 | b::g=>on (b) fun j=>bif ((j.aa==f)) then(on (b) fun k=>Sum.inr (k,true)) else(oL f (g) )
def fe (a0:ai) (g:Bs):(ag×Bool):=on (oL g a0.aj.l ) fun b=>match b with|Sum.inl _=>(on (()) fun _=>((ag.mk 0 [] Sl.nil Sl.nil Sl.nil Sl.nil Sl.nil),false))|Sum.inr f=>(f)
def AX (a0:ai) (b:Bs):Option (ag×Bool):=some (fe a0 b)
theorem Qi (a0:ai) (a1:Bs):AX a0 a1=some (fe a0 a1):=rfl
theorem l_ {a0 f r}(b:AX a0 f=some r) (H:af) :AC Tryz.prog 12 [.agg (ai.c a0),.d (.str f)] H (RT (.cI [.agg (ag.c r.1),.d (.bool r.2)]) H):=by
 unfold AX fe at b;refine AC.oW 28 [.cell 4 40,.tmp 5] Tryz.call12 Tryz.func12 ?_;refine Y5 ?_;refine cT (tl [4]) (fun(z:ag)=>[]) (fun z=>[ag.c z]) (fun z=>H) (fun z=>some (((ag.mk 0 [] Sl.nil Sl.nil Sl.nil Sl.nil Sl.nil),false))=some r) ?_ ?_
 ·intro E q;refine Y4 ?_;obtain⟨k,m,b⟩:=dX b;refine eZ (tl [1,2,4]) (fun(z:Nat×ag)=>[(6,vi z.1)]) (fun z=>[ag.c z.2]) (fun z=>H) (fun z=>a0.aj.l.length-z.1) (fun z=>k (oL f (a0.aj.l.drop z.1) )=some r) (0,ag.zero) b wA ?_;rintro ⟨g,p⟩ b F s;refine ar fun G t=>Y4 ?_;refine aT ag.c a0.aj fun I=>Y2 ?_
  refine ah.bL (fun l=>k (oL f l )=some r) b rfl (fun J j u b=>?_) (fun u b=>?_)
  ·rw [oL] at b;refine sk t (ar fun K v=>Y5 ?_);obtain⟨L,w,b⟩:=vP j b;refine S (ix ag.c g w) (Y5 ?_);refine cP b (fun y b=>?_) (fun y b=>?_)
   ·refine Y4 ?_;obtain⟨M,B,b⟩:=vP j b;refine S (ix ag.c g B) (Y4 ?_);exact rs (ku m b:)
   refine sk v (Y5 ?_);exact s _ ((g+1),p) wA b (dl j)
  rw [oL] at b;have b:=ku m b;refine ah.exit ?_;obtain⟨N,C,b⟩:=dX b;exact q _ p wA (ku C b:)
 rintro O b;refine Y5 ?_;exact rt b
def iO (a0:Bs):Bool:=(((((a0==([73,110,116]:Bs)))||((a0==([83,116,114,105,110,103]:Bs))))||((a0==([66,111,111,108,101,97,110]:Bs))))||((a0==([73,68]:Bs))))
def AY (a0:Bs):Option Bool:=some (iO a0)
theorem Qj (a0:Bs):AY a0=some (iO a0):=rfl
theorem uz {a0 r}(b:AY a0=some r) (H:af) :AC Tryz.prog 95 [.d (.str a0)] H (RT (.a (.d (.bool r))) H):=by
 unfold AY iO at b;refine AC.oW 17 [.tmp 2] Tryz.call95 Tryz.func95 ?_;refine Y8 ?_;refine Gk 6 ?_;refine Y3 ?_;refine Gk 10 ?_;refine Y3 ?_;refine Gk 14 ?_;refine Y3 ?_;exact rt b
def qi (a0:Int):Bool:=((((decide ((65:Int)<=a0))&&(decide (a0<=(90:Int))))||((decide ((97:Int)<=a0))&&(decide (a0<=(122:Int)))))||(decide (a0=(95:Int))))
theorem Qk {a0 r}(b:some (qi a0)=some r) (H:af) :AC Tryz.prog 108 [.d (.int .u8 a0)] H (RT (.a (.d (.bool r))) H):=by
 unfold qi at b;refine AC.oW 21 [.tmp 2] Tryz.call108 Tryz.func108 ?_;refine Y8 ?_;refine Gk 6 ?_;refine Y3 ?_;refine Gk 10 ?_;refine Gk 11 ?_;refine Y1 ?_;refine Gk 13 ?_;refine bG 12 rfl (fun hC=>kr rfl rfl rfl) ?_;refine Y3 ?_;refine Gk 18 ?_;refine Y3 ?_;exact rt b
def vS (a0:Int):Bool:=((decide ((48:Int)<=a0))&&(decide (a0<=(57:Int))))
theorem Ql {a0 r}(b:some (vS a0)=some r) (H:af) :AC Tryz.prog 109 [.d (.int .u8 a0)] H (RT (.a (.d (.bool r))) H):=by
 unfold vS at b;refine AC.oW 9 [.tmp 2] Tryz.call109 Tryz.func109 ?_;refine Y8 ?_;refine Gk 6 ?_;refine Y3 ?_;exact rt b
def qj :List UInt8->Nat->Unit ⊕ Bool
 | [],b=>Sum.inl ()
 | g::j,b=>on (g) fun k=>on (qi ((k.toNat:Nat):Int)) fun f=>on (bif ((!f)&&!(decide (((b:Nat):Int)=(0:Int)))) then g else(0:UInt8)) fun l=>on (bif ((!f)&&!(decide (((b:Nat):Int)=(0:Int)))) then vS ((l.toNat:Nat):Int) else false) fun m=>bif ((!f)&&((decide (((b:Nat):Int)=(0:Int)))||(!m))) then(Sum.inr false) else(qj  (j) (b+1) )
def ff (a0:Bs):Bool:=bif ((decide (((a0.length:Nat):Int)<(1:Int)))||(decide ((64:Int)<((a0.length:Nat):Int)))) then(false) else(on (qj  a0 0 ) fun b=>match b with|Sum.inl _=>(on (()) fun _=>true)|Sum.inr f=>(f))
def AZ (a0:Bs):Option Bool:=some (ff a0)
theorem mb {a0 r}(b:AZ a0=some r) (H:af) :AC Tryz.prog 63 [.d (.str a0)] H (RT (.a (.d (.bool r))) H):=by
 unfold AZ ff at b;refine AC.oW 34 [.tmp 2] Tryz.call63 Tryz.func63 ?_;refine Y3 ?_;refine ar fun G m=>Y2 ?_;refine vG (TK rfl) rfl rfl rfl rfl fun I=>?_;refine Y3 ?_;refine bG 8 rfl (fun hC=>Aq (TK rfl) rfl rfl rfl) ?_;refine Gk 9 ?_;refine Y2 ?_;refine cP b (fun p b=>?_) (fun p b=>?_)
 ·refine Y3 ?_;exact rt b
 refine sk m (aR kN (fun(z:Unit)=>[]) (fun z=>H) (fun z=>some (true)=some r) ?_ ?_)
 ·intro J q;refine Y4 ?_;obtain⟨j,k,b⟩:=dX b;refine bD (tl [0]) (fun(z:Nat)=>[(3,vi z)]) (fun z=>H) (fun z=>a0.length-z) (fun z=>j (qj  (a0.drop z) z )=some r) 0 b wA ?_;rintro f b K s;refine ar fun L t=>Y3 ?_;refine vG (TK rfl) rfl rfl rfl rfl fun M=>?_;refine Y2 ?_
  refine ah.bL (fun l=>j (qj  l f )=some r) b rfl (fun N g u b=>?_) (fun u b=>?_)
  ·rw [qj] at b;refine sk t (ar fun O v=>Y4 ?_);obtain⟨P,w,b⟩:=vP g b;refine s0 (ul (n:=f) (TK rfl) rfl rfl rfl w) rfl ?_;obtain⟨Q,y,b⟩:=vP rfl b;refine Sc rfl rfl (Qk y) (Y3 ?_);refine Gk 24 ?_;refine Gk 25 ?_;refine Y2 ?_;obtain⟨R,B,b⟩:=jU (fun _=>g) b;refine e9 27 28 rfl rfl (fun hC=>ul (n:=f) (TK rfl) rfl rfl rfl (B hC)) ?_
   obtain⟨S,C,b⟩:=jU (fun _=>rfl) b;refine dQ 29 rfl rfl rfl rfl rfl (fun hC=>Ql (C hC)) ?_;refine Gk 30 ?_;refine bG 26 rfl (fun hC=>um rfl rfl rfl) ?_;refine Y2 ?_;refine cP b (fun E b=>?_) (fun E b=>?_)
   ·refine Y3 ?_;exact rs (ku k b:)
   refine sk v (Y5 ?_);exact s _ (f+1) wA b (dl g)
  rw [qj] at b;have b:=ku k b;refine ah.exit ?_;obtain⟨U,F,b⟩:=dX b;exact q _ () wA (ku F b:)
 rintro _ b;refine Y3 ?_;exact rt b
def yy (a0:Bs):Option Bool:=aY ((decide ((2:Int)<=((a0.length:Nat):Int)))) (a0[0]?) (0:UInt8) fun b=>aY (((decide ((2:Int)<=((a0.length:Nat):Int)))&&(decide (((b.toNat:Nat):Int)=(95:Int))))) (a0[1]?) (0:UInt8) fun x5=>some (((decide ((2:Int)<=((a0.length:Nat):Int)))&&(decide (((b.toNat:Nat):Int)=(95:Int))))&&(decide (((x5.toNat:Nat):Int)=(95:Int))))
theorem Qm {a0 r}(b:yy a0=some r) (H:af) :AC Tryz.prog 172 [.d (.str a0)] H (RT (.a (.d (.bool r))) H):=by
 unfold yy at b;refine AC.oW 16 [.tmp 2] Tryz.call172 Tryz.func172 ?_;refine Y5 ?_;refine vG (TK rfl) rfl rfl rfl rfl fun j=>?_;refine Y3 ?_;obtain⟨k,f,b⟩:=eE rfl b;refine bG 7 rfl (fun hC=>ul (n:=0) (TK rfl) rfl rfl rfl (f hC)) ?_;refine Gk 8 ?_;refine Y3 ?_;obtain⟨x5,g,b⟩:=eE rfl b;refine bG 12 rfl (fun hC=>ul (n:=1) (TK rfl) rfl rfl rfl (g hC)) ?_;refine Gk 13 ?_;refine Y3 ?_
 exact rt b
def yz (a0:Bs):Option Bool:=on (ff a0) fun x3=>aY (x3) (yy a0) false fun b=>some (x3&&(!b))
theorem Ih {a0 r}(b:yz a0=some r) (H:af) :AC Tryz.prog 137 [.d (.str a0)] H (RT (.a (.d (.bool r))) H):=by
 unfold yz at b;refine AC.oW 10 [.tmp 2] Tryz.call137 Tryz.func137 ?_;refine Y5 ?_;obtain⟨x3,f,b⟩:=vT rfl b;refine Sc rfl rfl (mb f) (Y2 ?_);obtain⟨j,g,b⟩:=eE rfl b;refine dQ 6 rfl rfl rfl rfl rfl (fun hC=>Qm (g hC)) ?_;refine Gk 7 ?_;refine Y3 ?_;exact rt b
def nt (a0:Bs) (f:Bool) (p:Bool) (g:Bs):Option (Sl Z5):=aY (!f) (yz a0) false fun j=>Option.bind (bif (f||(!j)) then((bf 24 (Sl.nil:Sl Z5) (⟨false,[(Z5.mk 6 g)]⟩:Sl Z5)).bind fun k=>some k) else(some (Sl.nil:Sl Z5))) fun b=>Option.bind (bif p then((bf 24 b (⟨false,[(Z5.mk 7 g)]⟩:Sl Z5)).bind fun l=>some l) else(some b)) fun m=>some m
def vU (a0:Bs) (b:Bool) (f:Bool) (g:Bs):Option (Sl Z5):=nt a0 b f g
theorem Qn (a0:Bs) (a1:Bool) (a2:Bool) (a3:Bs):vU a0 a1 a2 a3=nt a0 a1 a2 a3:=rfl
theorem DU {a0 s j k r}(b:vU a0 s j k=some r) (H:af) :AC Tryz.prog 96 [.d (.str a0),.d (.bool s),.d (.bool j),.d (.str k)] H (RT (.a (.d (Sl.d 2 Z5.c none r))) H):=by
 unfold vU nt at b;refine AC.oW 28 [.tmp 8] Tryz.call96 Tryz.func96 ?_;refine ah.tok 2 fun f G=>?_;refine Y1 ?_;refine s0 (di (k':=2) rfl) rfl ?_;refine Y4 ?_;refine ah.fK 9 2 f rfl aA ?_
 refine aR (tl [2,3]) (fun(z:(Sl Z5))=>[(9,.a (.d (Sl.d 2 Z5.c (some f) z)))]) (fun z=>(tS H f 2 z)) (fun z=>(Option.bind (bif j then((bf 24 z (⟨false,[(Z5.mk 7 k)]⟩:Sl Z5)).bind fun g=>some g) else(some z)) fun l=>some l)=some r) ?_ ?_
 ·intro I m;refine Y4 ?_;obtain⟨J,t,b⟩:=eE rfl b;refine dQ 12 rfl rfl rfl rfl rfl (fun hC=>Ih (t hC)) ?_;refine Gk 13 ?_;refine Y2 ?_;obtain⟨K,p,b⟩:=bZ b;refine cO b (fun u b=>?_) (fun u b=>?_)
  ·refine Y5 ?_;obtain⟨v,w,b⟩:=qO rfl b;refine SH (am Z5.c (TK rfl) rfl (TK rfl) (TK rfl) w) ?_;refine Y2 ?_;exact m _ v wA (ku p b:)
  refine ah.skip ?_;exact m _ (Sl.nil:Sl Z5) wA (ku p b:)
 rintro y b;obtain⟨B,C,b⟩:=bZ b;refine aR kN (fun(z:(Sl Z5))=>[(9,.a (.d (Sl.d 2 Z5.c (some f) z)))]) (fun z=>(tS H f 2 z)) (fun z=>B z=some r) ?_ ?_
 ·intro L q;refine Y3 ?_;refine cO b (fun E b=>?_) (fun E b=>?_)
  ·refine Y5 ?_;obtain⟨g,F,b⟩:=qO rfl b;refine SH (am Z5.c (TK rfl) rfl (TK rfl) (TK rfl) F) ?_;refine Y2 ?_;exact q _ g wA b
  refine ah.skip ?_;exact q _ y wA b
 rintro l b;have b:=ku C b;refine Y4 ?_;refine ah.dV 8 rfl ?_;refine ry ?_;obtain rfl:=oJ b;refine bH.b9 H rfl ⟨rfl,rfl⟩ ?_;exact sy
theorem Qo {a0:Bs}{t j:Bool}{k:Bs}{r:Sl Z5}(b:vU a0 t j k=some r) (H:af){f:Nat}(J:H f=some (.tok 2 0)):AC Tryz.prog 96 [.d (.str a0),.d (.bool t),.d (.bool j),.d (.str k)] H fun v h'=>v=.a (.d (Sl.d 2 Z5.c (some f) r))/\h'=H.set f (some (.tok 2 r.l.length)):=by
 unfold vU nt at b;refine AC.oW 28 [.tmp 8] Tryz.call96 Tryz.func96 ?_;refine hz (H.set f (some (.tok 2 0))) (Y6 ?_);refine ah.fK 9 2 f rfl aA ?_;refine aR (tl [2,3]) (fun(z:(Sl Z5))=>[(9,.a (.d (Sl.d 2 Z5.c (some f) z)))]) (fun z=>(tS H f 2 z)) (fun z=>(Option.bind (bif j then((bf 24 z (⟨false,[(Z5.mk 7 k)]⟩:Sl Z5)).bind fun g=>some g) else(some z)) fun m=>some m)=some r) ?_ ?_
 ·intro K p;refine Y4 ?_;obtain⟨L,u,b⟩:=eE rfl b;refine dQ 12 rfl rfl rfl rfl rfl (fun hC=>Ih (u hC)) ?_;refine Gk 13 ?_;refine Y2 ?_;obtain⟨M,q,b⟩:=bZ b;refine cO b (fun w b=>?_) (fun w b=>?_)
  ·refine Y5 ?_;obtain⟨y,B,b⟩:=qO rfl b;refine SH (am Z5.c (TK rfl) rfl (TK rfl) (TK rfl) B) ?_;refine Y2 ?_;exact p _ y wA (ku q b:)
  refine ah.skip ?_;exact p _ (Sl.nil:Sl Z5) wA (ku q b:)
 rintro C b;obtain⟨E,F,b⟩:=bZ b;refine aR kN (fun(z:(Sl Z5))=>[(9,.a (.d (Sl.d 2 Z5.c (some f) z)))]) (fun z=>(tS H f 2 z)) (fun z=>E z=some r) ?_ ?_
 ·intro N s;refine Y3 ?_;refine cO b (fun G b=>?_) (fun G b=>?_)
  ·refine Y5 ?_;obtain⟨g,I,b⟩:=qO rfl b;refine SH (am Z5.c (TK rfl) rfl (TK rfl) (TK rfl) I) ?_;refine Y2 ?_;exact s _ g wA b
  refine ah.skip ?_;exact s _ C wA b
 rintro m b;have b:=ku F b;refine Y4 ?_;exact rt b
def A2 (a0:ag):Bool:=on (bif (decide (a0.ak=(1:Int))) then((decide (a0.ak=(1:Int)))) else((decide (a0.ak=(2:Int))))) fun b=>bif b then((decide (((a0.an.l.length:Nat):Int)=(0:Int)))) else(on (bif (decide (a0.ak=(3:Int))) then((decide (a0.ak=(3:Int)))) else((decide (a0.ak=(4:Int))))) fun f=>bif f then((decide (((a0.au.l.length:Nat):Int)=(0:Int)))) else(bif (decide (a0.ak=(5:Int))) then((decide (((a0.ay.l.length:Nat):Int)=(0:Int)))) else(on (()) fun _=>false)))
def A3 (a0:ag):Option Bool:=some (A2 a0)
theorem Qp (a0:ag):A3 a0=some (A2 a0):=rfl
theorem Qq {a0 r}(b:A3 a0=some r) (H:af) :AC Tryz.prog 97 [.agg (ag.c a0)] H (RT (.a (.d (.bool r))) H):=by
 unfold A3 A2 at b;refine AC.oW 25 [.tmp 2] Tryz.call97 Tryz.func97 ?_;refine Y4 ?_;refine aR kN (fun(z:Unit)=>[]) (fun z=>H) (fun z=>some (false)=some r) ?_ ?_
 ·intro y j;refine Y5 ?_;obtain⟨k,l,b⟩:=dX b;refine aR (tl [1,4]) (fun(z:Bool)=>[(5,.a (.d (.bool z)))]) (fun z=>H) (fun z=>k z=some r) ?_ ?_
  ·intro B f;refine Y4 ?_;refine cP b (fun m b=>?_) (fun m b=>?_)
   ·refine ah.skip ?_;exact f _ (decide (a0.ak=(1:Int))) wA b
   refine Y4 ?_;exact f _ (decide (a0.ak=(2:Int))) wA b
  rintro C b;have b:=ku l b;refine cP b (fun p b=>?_) (fun p b=>?_)
  ·refine Y3 ?_;refine aT Z6.c a0.an fun E=>Y3 ?_;exact rt b
  obtain⟨q,s,b⟩:=dX b;refine aR (tl [1,4]) (fun(z:Bool)=>[(12,.a (.d (.bool z)))]) (fun z=>H) (fun z=>q z=some r) ?_ ?_
  ·intro F g;refine Y4 ?_;refine cP b (fun t b=>?_) (fun t b=>?_)
   ·refine ah.skip ?_;exact g _ (decide (a0.ak=(3:Int))) wA b
   refine Y4 ?_;exact g _ (decide (a0.ak=(4:Int))) wA b
  rintro G b;have b:=ku s b;refine cP b (fun u b=>?_) (fun u b=>?_)
  ·refine Y3 ?_;refine aT Z8.c a0.au fun I=>Y3 ?_;exact rt b
  refine Y4 ?_;refine cP b (fun v b=>?_) (fun v b=>?_)
  ·refine Y3 ?_;refine aT Z7.c a0.ay fun J=>Y3 ?_;exact rt b
  refine ah.skip ?_;obtain⟨K,w,b⟩:=dX b;exact j _ () wA (ku w b:)
 rintro _ b;refine Y3 ?_;exact rt b
def qk (b:Bs):List Bs->Unit ⊕ Bool
 | []=>Sum.inl ()
 | f::g=>on (f) fun j=>bif ((j==b)) then(Sum.inr true) else(qk b (g) )
def vV (a0:(Sl Bs)) (g:Bs):Bool:=on (qk g a0.l ) fun b=>match b with|Sum.inl _=>(on (()) fun _=>false)|Sum.inr f=>(f)
def A4 (a0:(Sl Bs)) (b:Bs):Option Bool:=some (vV a0 b)
theorem Qr (a0:(Sl Bs)) (a1:Bs):A4 a0 a1=some (vV a0 a1):=rfl
theorem Ii {a0 f w0 r}(b:A4 a0 f=some r) (H:af) :AC Tryz.prog 139 [.d (Sl.d 1 aB w0 a0),.d (.str f)] H (RT (.a (.d (.bool r))) H):=by
 unfold A4 vV at b;refine AC.oW 18 [.tmp 4] Tryz.call139 Tryz.func139 ?_;refine Y3 ?_;refine aR kN (fun(z:Unit)=>[]) (fun z=>H) (fun z=>some (false)=some r) ?_ ?_
 ·intro B p;refine Y4 ?_;obtain⟨g,j,b⟩:=dX b;refine bD (tl [0,1]) (fun(z:Nat)=>[(5,vi z)]) (fun z=>H) (fun z=>a0.l.length-z) (fun z=>g (qk f (a0.l.drop z) )=some r) 0 b wA ?_;rintro k b C q;refine ar fun E s=>Y3 ?_;refine aT aB a0 fun F=>Y2 ?_;refine ah.bL (fun l=>g (qk f l )=some r) b rfl (fun G m t b=>?_) (fun t b=>?_)
  ·rw [qk] at b;refine sk s (ar fun I u=>Y4 ?_);obtain⟨J,v,b⟩:=vP m b;refine S (ix aB k v) (Y4 ?_);refine cP b (fun w b=>?_) (fun w b=>?_)
   ·refine Y3 ?_;exact rs (ku j b:)
   refine sk u (Y5 ?_);exact q _ (k+1) wA b (dl m)
  rw [qk] at b;have b:=ku j b;refine ah.exit ?_;obtain⟨K,y,b⟩:=dX b;exact p _ () wA (ku y b:)
 rintro _ b;refine Y3 ?_;exact rt b
def yA (a0:aL):Option Bool:=aY ((decide (((a0.aK.l.length:Nat):Int)=(1:Int)))) (a0.aK.l[0]?) (0:Int) fun b=>some ((decide (((a0.aK.l.length:Nat):Int)=(1:Int)))&&(decide (b=(1:Int))))
theorem Qt {a0 r}(b:yA a0=some r) (H:af) :AC Tryz.prog 173 [.agg (aL.c a0)] H (RT (.a (.d (.bool r))) H):=by
 unfold yA at b;refine AC.oW 14 [.tmp 2] Tryz.call173 Tryz.func173 ?_;refine Y7 ?_;refine aT (bI .i64) a0.aK fun g=>Y3 ?_;refine Gk 8 ?_;obtain⟨j,f,b⟩:=eE rfl b;refine bG 9 rfl (fun hC=>ix (bI .i64) 0 (f hC)) ?_;refine Gk 10 ?_;refine Gk 11 ?_;refine Y3 ?_;exact rt b
def oM (a0:ai) (j:Bs):List Z7->(Sl Bs)->Option ((Sl Bs))
 | [],f=>some f
 | l::m,f=>on (l) fun b=>on (fe a0 b.ax.aa) fun g=>(yA b.ax).bind fun k=>on (bif (k&&(((b.ax.aa==j))||(g.2&&(decide (g.1.ak=(5:Int)))))) then vV f b.ax.aa else false) fun p=>Option.bind (bif ((k&&(((b.ax.aa==j))||(g.2&&(decide (g.1.ak=(5:Int))))))&&(!p)) then((bf 16 f (⟨false,[b.ax.aa]⟩:Sl Bs)).bind fun q=>some q) else(some f)) fun r=>oM a0 j (m) r
def A5 (a0:ai) (g:ag) (j:Bs) (k:(Sl Bs)):Option (Sl Bs):=Option.bind (oM a0 j g.ay.l k) fun b=>on (b) fun f=>some f
def vW (a0:ai) (b:ag) (f:Bs) (g:(Sl Bs)):Option (Sl Bs):=A5 a0 b f g
theorem Qu (a0:ai) (a1:ag) (a2:Bs) (a3:(Sl Bs)):vW a0 a1 a2 a3=A5 a0 a1 a2 a3:=rfl
theorem Ij {a0 f g j g3 r}(b:vW a0 f g j=some r) (H:af) (O:H g3=some (.tok 1 j.l.length)):AC Tryz.prog 138 [.agg (ai.c a0),.agg (ag.c f),.d (.str g),.d (Sl.d 1 aB (some g3) j)] H fun v h'=>v=.a (.d (Sl.d 1 aB (some g3) r))/\h'=(tS H g3 1 r):=by
 unfold vW A5 at b;refine AC.oW 62 [.tmp 8] Tryz.call138 Tryz.func138 ?_;refine hz (tS H g3 1 j) (Y5 ?_);refine aR kN (fun(z:(Sl Bs))=>[(3,.a (.d (Sl.d 1 aB (some g3) z)))]) (fun z=>(tS H g3 1 z)) (fun z=>(some z)=some r) ?_ ?_
 ·intro P u;refine Y4 ?_;obtain⟨k,w,b⟩:=bZ b;refine bD (tl [2,4,5]) (fun(z:(Sl Bs)×Nat)=>[(3,.a (.d (Sl.d 1 aB (some g3) z.1))),(9,vi z.2)]) (fun z=>(tS H g3 1 z.1)) (fun z=>f.ay.l.length-z.2) (fun z=>Option.bind (oM a0 g (f.ay.l.drop z.2) z.1) k=some r) (j,0) b wA ?_;rintro ⟨m,p⟩ b Q y;refine ar fun R B=>Y4 ?_;refine aT Z7.c f.ay fun U=>Y2 ?_
  refine ah.bL (fun l=>Option.bind (oM a0 g l m) k=some r) b rfl (fun W q C b=>?_) (fun C b=>?_)
  ·rw [oM] at b;refine sk B (aR (tl [2,4,5,9]) (fun(z:(Sl Bs))=>[(3,.a (.d (Sl.d 1 aB (some g3) z)))]) (fun z=>(tS H g3 1 z)) (fun z=>Option.bind (oM a0 g (f.ay.l.drop (p+1)) z) k=some r) ?_ ?_)
   ·intro X s;refine Y5 ?_;obtain⟨Y,E,b⟩:=vO q b;refine S (ix Z7.c p E) (Y5 ?_);refine bx 10 _ rfl (kl [2,3,4,5,9]) ?_;refine Y4 ?_;obtain⟨Z,F,b⟩:=vO rfl b;refine Sc rfl rfl (l_ F) (Y7 ?_);refine bx 11 _ rfl (kl [2,3,4,5,9,10,12]) ?_;refine Y2 ?_;obtain⟨aa,G,b⟩:=qO rfl b;refine Sc rfl rfl (Qt G) (Y2 ?_);refine Gk 36 ?_;refine Y1 ?_;refine G2 37 38 rfl rfl BS ?_
    refine Gk 39 ?_;refine Y1 ?_;refine Gk 41 ?_;refine Y1 ?_;refine Gk 43 ?_;refine Gk 44 ?_;refine bG 42 rfl (fun hC=>kr rfl rfl rfl) ?_;refine bG 40 rfl (fun hC=>um rfl rfl rfl) ?_;refine Y4 ?_;refine Gk 51 ?_;obtain⟨ab,I,b⟩:=ej (fun _=>rfl) b;refine fE 50 52 rfl rfl rfl rfl rfl rfl (fun hC=>Ii (I hC)) ?_;refine Gk 53 ?_;refine Y2 ?_;obtain⟨ad,t,b⟩:=cM b
    refine cO b (fun J b=>?_) (fun J b=>?_)
    ·refine Y5 ?_;obtain⟨K,L,b⟩:=qO rfl b;refine SH (am aB (TK rfl) rfl (TK rfl) (TK rfl) L) ?_;refine Y2 ?_;exact s _ K wA (ku t b:)
    refine ah.skip ?_;exact s _ m wA (ku t b:)
   rintro M b;refine Y5 ?_;exact y _ (M,(p+1)) wA b (dl q)
  rw [oM] at b;have b:=ku w b;refine ah.exit ?_;obtain⟨ae,N,b⟩:=bW b;exact u _ m wA (ku N b:)
 rintro aj b;refine Y4 ?_;exact rt b
def A6 (g:ag)  (b:(Sl Bs)):Option Bool:=(A4 b g.aa).bind fun f=>some f
def vX (a0:ai) (g:ag) :Nat->(Sl Bs)->Nat->Option Bool
 | 0,_,_=>none
 | j+1,b,f=>bif (decide (((f:Nat):Int)<((b.l.length:Nat):Int))) then((b.l[f]?).bind fun k=>(AX a0 k).bind fun m=>(vW a0 m.1 g.aa b).bind fun p=>(vX a0 g j) p (f+1)) else(A6 g  b)
def yB (a0:ai) (b:ag):Option Bool:=bif (!decide (b.ak=(5:Int))) then(some false) else((vW a0 b b.aa (Sl.nil:Sl Bs)).bind fun x7=>vX a0 b F0 x7 0)
theorem Qv {a0 g r}(b:yB a0 g=some r) (H:af) :AC Tryz.prog 98 [.agg (ai.c a0),.agg (ag.c g)] H (RT (.a (.d (.bool r))) H):=by
 unfold yB at b;refine AC.oW 42 [.tmp 4] Tryz.call98 Tryz.func98 ?_;refine ah.tok 1 fun f I=>?_;refine Y5 ?_;refine ar fun J m=>Y5 ?_;refine cE b (fun p b=>?_) (fun p b=>?_)
 ·refine Y3 ?_;refine ry ?_;obtain rfl:=oJ b;refine bH.b9 H rfl ⟨rfl,rfl⟩ ?_;exact sy
 refine sk m (Y5 ?_);obtain⟨x7,q,b⟩:=bO b;refine sH (bS rfl rfl (AC.Hg (.cons (.refl _) (.cons (.refl _) (.cons (.refl _) (.cons (nk.nil (k':=1) (t:=f) aA) .nil)))) (Ij q _ aA))) rfl ?_;refine Y2 ?_;refine aR (tl [3]) (fun(z:(Sl Bs))=>[(5,.a (.d (Sl.d 1 aB (some f) z)))]) (fun z=>(tS H f 1 z)) (fun z=>A6 g z=some r) ?_ ?_
 ·intro K s;refine Y4 ?_;refine bD (tl [2,3]) (fun(z:Nat×(Sl Bs)×Nat)=>[(5,.a (.d (Sl.d 1 aB (some f) z.2.1))),(6,vi z.2.2)]) (fun z=>(tS H f 1 z.2.1)) (fun z=>z.1) (fun z=>vX a0 g z.1 z.2.1 z.2.2=some r) (F0,x7,0) b wA ?_;rintro ⟨j,k,l⟩ b L u;cases j with
  | zero=>cases b
  | succ j =>
    rw [vX] at b;refine ar fun M v=>Y3 ?_;refine aT aB k fun N=>Y2 ?_;refine cE b (fun w b=>?_) (fun w b=>?_)
    ·refine sk v (ar fun O y=>Y5 ?_);obtain⟨P,B,b⟩:=bO b;refine Sd (ix aB l B) (Y1 ?_);obtain⟨Q,C,b⟩:=bO b;refine cH rfl rfl (l_ C) (Y7 ?_);refine bx 7 _ rfl (kl [2,3,5,6]) ?_;refine Y6 ?_;obtain⟨E,F,b⟩:=bO b;refine sH (bS rfl rfl (Ij F _ aA)) rfl ?_;refine Y2 ?_;refine y _ ?_;refine Y5 ?_;exact u _ (j,E,(l+1)) wA b (nS _)
    refine ah.exit ?_;exact s _ k wA b
 rintro R b;unfold A6 at b;refine Y4 ?_;obtain⟨S,G,b⟩:=bO b;refine Sc rfl rfl (Ii G) (Y2 ?_);refine ry ?_;obtain rfl:=oJ b;refine bH.b9 H rfl ⟨rfl,rfl⟩ ?_;exact sy
def yC  (b:(Sl Z5)):Option (Sl Z5):=some b
def rX (a0:ai) (x3:ag)  (b:(Sl Z5)):Option (Sl Z5):=(yB a0 x3).bind fun f=>bif f then((bf 24 b (⟨false,[(Z5.mk 5 x3.aa)]⟩:Sl Z5)).bind fun g=>yC   g) else(yC   b)
def vY (a0:ai) (x3:ag)  (b:(Sl Z5)):Option (Sl Z5):=bif (((((((x3.aa==([81,117,101,114,121]:Bs)))||((x3.aa==([77,117,116,97,116,105,111,110]:Bs))))||((x3.aa==([83,117,98,115,99,114,105,112,116,105,111,110]:Bs))))&&(!decide (x3.ak=(1:Int))))||(decide (x3.ak<(1:Int))))||(decide ((5:Int)<x3.ak))) then((bf 24 b (⟨false,[(Z5.mk 9 x3.aa)]⟩:Sl Z5)).bind fun f=>rX a0 x3  f) else(rX a0 x3  b)
def vZ (a0:ai) (x3:ag)  (f:Bool):Option (Sl Z5):=(vU x3.aa false f x3.aa).bind fun b=>(A3 x3).bind fun g=>bif g then((bf 24 b (⟨false,[(Z5.mk 8 x3.aa)]⟩:Sl Z5)).bind fun j=>vY a0 x3  j) else(vY a0 x3  b)
def v7 (a0:ai) (g:Int) (x3:ag) :Nat->Bool->Int->Option (Sl Z5)
 | 0,_,_=>none
 | j+1,b,f=>bif (decide (f<g)) then(aY (!b) (dh a0.aj.l f) ag.zero fun k=>(cF f (1:Int)).bind fun m=>(v7 a0 g x3 j) (b||((k.aa==x3.aa))) m) else(vZ a0 x3  b)
def A7 (a0:ai) (b:Int):Option (Sl Z5):=(dh a0.aj.l b).bind fun x3=>(AY x3.aa).bind fun x5=>v7 a0 b x3 F0 x5 (0:Int)
theorem Qw {a0 k r}(b:A7 a0 k=some r) (H:af) :AC Tryz.prog 54 [.agg (ai.c a0),.d (.int .i64 k)] H (RT (.a (.d (Sl.d 2 Z5.c none r))) H):=by
 unfold A7 at b;refine AC.oW 94 [.tmp 4] Tryz.call54 Tryz.func54 ?_;refine Y2 ?_;refine s0 (di (k':=2) rfl) rfl ?_;refine Y5 ?_;obtain⟨x3,s,b⟩:=bO b;refine s0 (iZ (f:=ag.c) (TK rfl) rfl (TK rfl) rfl rfl rfl s) rfl ?_;refine Y4 ?_;refine bx 5 _ rfl (kl [1,2]) ?_;refine Y3 ?_;obtain⟨x5,t,b⟩:=bO b;refine Sc rfl rfl (uz t) (Y2 ?_)
 refine aR (tl [2,5]) (fun(z:Bool)=>[(6,.a (.d (.bool z)))]) (fun z=>H) (fun z=>vZ a0 x3 z=some r) ?_ ?_
 ·intro ab u;refine Y4 ?_;refine bD (tl [1,2,5]) (fun(z:Nat×Bool×Int)=>[(6,.a (.d (.bool z.2.1))),(7,.a (.d (.int .i64 z.2.2)))]) (fun z=>H) (fun z=>z.1) (fun z=>v7 a0 k x3 z.1 z.2.1 z.2.2=some r) (F0,x5,(0:Int)) b wA ?_;rintro ⟨j,l,ad⟩ b ae v;cases j with
  | zero=>cases b
  | succ j =>
    rw [v7] at b;refine ar fun aj w=>Y5 ?_;refine cE b (fun y b=>?_) (fun y b=>?_)
    ·refine sk w (ar fun ak B=>Y1 ?_);refine ah.draw rfl ?_;refine Y3 ?_;refine dZ 25 ?_;refine Y1 ?_;obtain⟨C,E,b⟩:=gO b;refine jF 26 27 rfl rfl (fun hC=>iZ (f:=ag.c) (TK rfl) rfl (TK rfl) rfl rfl rfl (E hC)) ?_;refine dZ 28 ?_;refine dZ 29 ?_;refine Y1 ?_;refine dZ 31 ?_;refine AU 30 32 rfl rfl BS ?_;refine Y3 ?_;refine B _ ?_;refine Y2 ?_;obtain⟨F,G,b⟩:=bO b
     refine S (eC G) (Y2 ?_);exact v _ (j,(l||((C.aa==x3.aa))),F) wA b (nS _)
    refine ah.exit ?_;exact u _ l wA b
 rintro al b;unfold vZ at b;refine ah.tok 2 fun g an=>?_;refine Y6 ?_;obtain⟨I,J,b⟩:=bO b;refine sH (bS rfl rfl (Qo J _ aA)) rfl ?_;refine Y2 ?_;refine aR (tl [2,5]) (fun(z:(Sl Z5))=>[(8,.a (.d (Sl.d 2 Z5.c (some g) z)))]) (fun z=>(tS H g 2 z)) (fun z=>vY a0 x3 z=some r) ?_ ?_
 ·intro ao m;refine Y2 ?_;obtain⟨ap,K,b⟩:=bO b;refine Sc rfl rfl (Qq K) (Y1 ?_);refine cE b (fun L b=>?_) (fun L b=>?_)
  ·refine Y6 ?_;obtain⟨M,N,b⟩:=bO b;refine SH (am Z5.c (TK rfl) rfl (TK rfl) (TK rfl) N) ?_;refine Y2 ?_;exact m _ M wA b
  refine ah.skip ?_;exact m _ I wA b
 rintro O b;unfold vY at b;refine Y6 ?_;refine Gk 53 ?_;refine Gk 54 ?_;refine Y3 ?_;refine Gk 58 ?_;refine Gk 59 ?_;refine Y3 ?_;refine aR (tl [2,5]) (fun(z:(Sl Z5))=>[(8,.a (.d (Sl.d 2 Z5.c (some g) z)))]) (fun z=>(tS H g 2 z)) (fun z=>rX a0 x3 z=some r) ?_ ?_
 ·intro au p;refine Y4 ?_;refine Gk 64 ?_;refine Gk 65 ?_;refine Y3 ?_;refine Gk 69 ?_;refine Gk 70 ?_;refine Y3 ?_;refine Gk 74 ?_;refine Gk 75 ?_;refine Y2 ?_;refine cE b (fun P b=>?_) (fun P b=>?_)
  ·refine Y6 ?_;obtain⟨Q,R,b⟩:=bO b;refine SH (am Z5.c (TK rfl) rfl (TK rfl) (TK rfl) R) ?_;refine Y2 ?_;exact p _ Q wA b
  refine ah.skip ?_;exact p _ O wA b
 rintro U b;unfold rX at b;refine aR kN (fun(z:(Sl Z5))=>[(8,.a (.d (Sl.d 2 Z5.c (some g) z)))]) (fun z=>(tS H g 2 z)) (fun z=>yC z=some r) ?_ ?_
 ·intro av q;refine Y3 ?_;obtain⟨aw,W,b⟩:=bO b;refine Sc rfl rfl (Qv W) (Y1 ?_);refine cE b (fun X b=>?_) (fun X b=>?_)
  ·refine Y6 ?_;obtain⟨Y,Z,b⟩:=bO b;refine SH (am Z5.c (TK rfl) rfl (TK rfl) (TK rfl) Z) ?_;refine Y2 ?_;exact q _ Y wA b
  refine ah.skip ?_;exact q _ U wA b
 rintro ax b;unfold yC at b;refine Y4 ?_;refine ah.dV 4 rfl ?_;refine ry ?_;obtain rfl:=oJ b;refine bH.b9 H rfl ⟨rfl,rfl⟩ ?_;exact sy
def DV (a0:ai) (b:Int):Option (Sl Z5):=A7 a0 b
def nv (f:Bs):List Z6->Unit ⊕ ((Z6×Bool))
 | []=>Sum.inl ()
 | b::g=>on (b) fun j=>bif ((j.aa==f)) then(on (b) fun k=>Sum.inr (k,true)) else(nv f (g) )
def rY (a0:ag) (g:Bs):(Z6×Bool):=on (nv g a0.an.l ) fun b=>match b with|Sum.inl _=>(on (()) fun _=>((Z6.mk [] Sl.nil aL.zero Sl.nil),false))|Sum.inr f=>(f)
theorem Ik {a0 f r}(b:some (rY a0 f)=some r) (H:af) :AC Tryz.prog 29 [.agg (ag.c a0),.d (.str f)] H (RT (.cI [.agg (Z6.c r.1),.d (.bool r.2)]) H):=by
 unfold rY at b;refine AC.oW 28 [.cell 4 49,.tmp 5] Tryz.call29 Tryz.func29 ?_;refine Y5 ?_;refine cT (tl [4]) (fun(z:Z6)=>[]) (fun z=>[Z6.c z]) (fun z=>H) (fun z=>some (((Z6.mk [] Sl.nil aL.zero Sl.nil),false))=some r) ?_ ?_
 ·intro E q;refine Y4 ?_;obtain⟨k,m,b⟩:=dX b;refine eZ (tl [1,2,4]) (fun(z:Nat×Z6)=>[(6,vi z.1)]) (fun z=>[Z6.c z.2]) (fun z=>H) (fun z=>a0.an.l.length-z.1) (fun z=>k (nv f (a0.an.l.drop z.1) )=some r) (0,Z6.zero) b wA ?_;rintro ⟨g,p⟩ b F s;refine ar fun G t=>Y4 ?_;refine aT Z6.c a0.an fun I=>Y2 ?_
  refine ah.bL (fun l=>k (nv f l )=some r) b rfl (fun J j u b=>?_) (fun u b=>?_)
  ·rw [nv] at b;refine sk t (ar fun K v=>Y5 ?_);obtain⟨L,w,b⟩:=vP j b;refine S (ix Z6.c g w) (Y5 ?_);refine cP b (fun y b=>?_) (fun y b=>?_)
   ·refine Y4 ?_;obtain⟨M,B,b⟩:=vP j b;refine S (ix Z6.c g B) (Y4 ?_);exact rs (ku m b:)
   refine sk v (Y5 ?_);exact s _ ((g+1),p) wA b (dl j)
  rw [nv] at b;have b:=ku m b;refine ah.exit ?_;obtain⟨N,C,b⟩:=dX b;exact q _ p wA (ku C b:)
 rintro O b;refine Y5 ?_;exact rt b
def lp (f:Bs):List Z7->Unit ⊕ ((Z7×Bool))
 | []=>Sum.inl ()
 | b::g=>on (b) fun j=>bif ((j.aa==f)) then(on (b) fun k=>Sum.inr (k,true)) else(lp f (g) )
def jG (a0:(Sl Z7)) (g:Bs):(Z7×Bool):=on (lp g a0.l ) fun b=>match b with|Sum.inl _=>(on (()) fun _=>((Z7.mk [] aL.zero false Z9.zero Sl.nil),false))|Sum.inr f=>(f)
theorem A8 {a0 f w0 r}(b:some (jG a0 f)=some r) (H:af) :AC Tryz.prog 61 [.d (Sl.d 10 Z7.c w0 a0),.d (.str f)] H (RT (.cI [.agg (Z7.c r.1),.d (.bool r.2)]) H):=by
 unfold jG at b;refine AC.oW 25 [.cell 4 81,.tmp 5] Tryz.call61 Tryz.func61 ?_;refine Y4 ?_;refine cT (tl [4]) (fun(z:Z7)=>[]) (fun z=>[Z7.c z]) (fun z=>H) (fun z=>some (((Z7.mk [] aL.zero false Z9.zero Sl.nil),false))=some r) ?_ ?_
 ·intro E q;refine Y4 ?_;obtain⟨k,m,b⟩:=dX b;refine eZ (tl [0,1,4]) (fun(z:Nat×Z7)=>[(6,vi z.1)]) (fun z=>[Z7.c z.2]) (fun z=>H) (fun z=>a0.l.length-z.1) (fun z=>k (lp f (a0.l.drop z.1) )=some r) (0,Z7.zero) b wA ?_;rintro ⟨g,p⟩ b F s;refine ar fun G t=>Y3 ?_;refine aT Z7.c a0 fun I=>Y2 ?_
  refine ah.bL (fun l=>k (lp f l )=some r) b rfl (fun J j u b=>?_) (fun u b=>?_)
  ·rw [lp] at b;refine sk t (ar fun K v=>Y4 ?_);obtain⟨L,w,b⟩:=vP j b;refine S (ix Z7.c g w) (Y5 ?_);refine cP b (fun y b=>?_) (fun y b=>?_)
   ·refine Y3 ?_;obtain⟨M,B,b⟩:=vP j b;refine S (ix Z7.c g B) (Y4 ?_);exact rs (ku m b:)
   refine sk v (Y5 ?_);exact s _ ((g+1),p) wA b (dl j)
  rw [lp] at b;have b:=ku m b;refine ah.exit ?_;obtain⟨N,C,b⟩:=dX b;exact q _ p wA (ku C b:)
 rintro O b;refine Y5 ?_;exact rt b
def oN (a0:ai) (b:Bs):Bool:=on (fe a0 b) fun x3=>on (iO b) fun x5=>(x5||x3.2)
theorem Il {a0 f r}(b:some (oN a0 f)=some r) (H:af) :AC Tryz.prog 99 [.agg (ai.c a0),.d (.str f)] H (RT (.a (.d (.bool r))) H):=by
 unfold oN at b;refine AC.oW 18 [.tmp 4] Tryz.call99 Tryz.func99 ?_;refine Y7 ?_;obtain⟨x3,g,b⟩:=vP rfl b;refine Sc rfl rfl (l_ g) (Y7 ?_);refine bx 5 _ rfl (kl [1,6]) ?_;refine Y2 ?_;obtain⟨x5,j,b⟩:=vP rfl b;refine Sc rfl rfl (uz j) (Y5 ?_);exact rt b
def rZ (a0:ai) (b:Bs):Bool:=on (fe a0 b) fun x3=>on (iO b) fun x5=>(x5||(x3.2&&(decide (x3.1.ak=(4:Int)))))
theorem Qx {a0 f r}(b:some (rZ a0 f)=some r) (H:af) :AC Tryz.prog 140 [.agg (ai.c a0),.d (.str f)] H (RT (.a (.d (.bool r))) H):=by
 unfold rZ at b;refine AC.oW 23 [.tmp 4] Tryz.call140 Tryz.func140 ?_;refine Y7 ?_;obtain⟨x3,g,b⟩:=vP rfl b;refine Sc rfl rfl (l_ g) (Y7 ?_);refine bx 5 _ rfl (kl [1,6]) ?_;refine Y2 ?_;obtain⟨x5,j,b⟩:=vP rfl b;refine Sc rfl rfl (uz j) (Y2 ?_);refine Gk 16 ?_;refine Y1 ?_;refine Gk 18 ?_;refine Gk 19 ?_;refine bG 17 rfl (fun hC=>kr rfl rfl rfl) ?_;refine Y3 ?_;exact rt b
def jH (a0:ai) (b:Bs):Bool:=on (fe a0 b) fun x3=>on (rZ a0 b) fun x5=>(x5||(x3.2&&(decide (x3.1.ak=(5:Int)))))
theorem DW {a0 f r}(b:some (jH a0 f)=some r) (H:af) :AC Tryz.prog 100 [.agg (ai.c a0),.d (.str f)] H (RT (.a (.d (.bool r))) H):=by
 unfold jH at b;refine AC.oW 24 [.tmp 4] Tryz.call100 Tryz.func100 ?_;refine Y7 ?_;obtain⟨x3,g,b⟩:=vP rfl b;refine Sc rfl rfl (l_ g) (Y7 ?_);refine bx 5 _ rfl (kl [1,2,6]) ?_;refine Y3 ?_;obtain⟨x5,j,b⟩:=vP rfl b;refine Sc rfl rfl (Qx j) (Y2 ?_);refine Gk 17 ?_;refine Y1 ?_;refine Gk 19 ?_;refine Gk 20 ?_;refine bG 18 rfl (fun hC=>kr rfl rfl rfl) ?_;refine Y3 ?_;exact rt b
def oO (a0:ai) (m:(Sl Z7)) (p:Bs) (q:Bs):List Z7->Nat->(Sl Z5)->Option ((Sl Z5))
 | [],f,g=>some g
 | b::r,f,g=>on (b) fun s=>(bV p s.aa).bind fun t=>(bV t q).bind fun j=>on ((⟨m.nl,m.l.take f⟩:Sl Z7)) fun u=>on (b) fun v=>on (jG u v.aa) fun w=>on (b) fun y=>(nt y.aa false w.2 j).bind fun z=>(bf 24 g z).bind fun k=>on (b) fun B=>on (oN a0 B.ax.aa) fun C=>Option.bind (bif (!C) then((bf 24 k (⟨false,[(Z5.mk 8 j)]⟩:Sl Z5)).bind fun E=>some E) else(on (b) fun F=>on (jH a0 F.ax.aa) fun G=>bif (!G) then((bf 24 k (⟨false,[(Z5.mk 10 j)]⟩:Sl Z5)).bind fun H=>some H) else(some k))) fun I=>oO a0 m p q (r) (f+1) I
def r_ (a0:ai) (b:(Sl Z7)) (j:Bs) (k:Bs):Option (Sl Z5):=Option.bind (oO a0 b j k b.l 0 (Sl.nil:Sl Z5)) fun f=>on (f) fun g=>some g
theorem Im {a0 k p q E r}(b:r_ a0 k p q=some r) (H:af) :AC Tryz.prog 57 [.agg (ai.c a0),.d (Sl.d 10 Z7.c E k),.d (.str p),.d (.str q)] H (RT (.a (.d (Sl.d 2 Z5.c none r))) H):=by
 unfold r_ at b;refine AC.oW 80 [.tmp 8] Tryz.call57 Tryz.func57 ?_;refine ah.tok 2 fun g al=>?_;refine Y2 ?_;refine s0 (di (k':=2) rfl) rfl ?_;refine Y4 ?_;refine ah.fK 9 2 g rfl aA ?_;refine aR kN (fun(z:(Sl Z5))=>[(9,.a (.d (Sl.d 2 Z5.c (some g) z)))]) (fun z=>(tS H g 2 z)) (fun z=>(some z)=some r) ?_ ?_
 ·intro an F;refine Y4 ?_;obtain⟨s,G,b⟩:=bZ b;refine bD (tl [1,2,3,4]) (fun(z:(Sl Z5)×Nat)=>[(9,.a (.d (Sl.d 2 Z5.c (some g) z.1))),(10,vi z.2)]) (fun z=>(tS H g 2 z.1)) (fun z=>k.l.length-z.2) (fun z=>Option.bind (oO a0 k p q (k.l.drop z.2) z.2 z.1) s=some r) ((Sl.nil:Sl Z5),0) b wA ?_;rintro ⟨w,j⟩ b ao I;try dsimp only at b
  refine ar fun ap J=>Y3 ?_;refine aT Z7.c k fun au=>Y2 ?_;refine ah.bL (fun l=>Option.bind (oO a0 k p q l j w) s=some r) b rfl (fun av m t b=>?_) (fun t b=>?_)
  ·rw [oO] at b;try dsimp only at t
   have aw:=oD t;refine sk J (aR (tl [1,2,3,4,10]) (fun(z:(Sl Z5))=>[(9,.a (.d (Sl.d 2 Z5.c (some g) z)))]) (fun z=>(tS H g 2 z)) (fun z=>Option.bind (oO a0 k p q (k.l.drop (j+1)) (j+1) z) s=some r) ?_ ?_)
   ·intro ax u;refine Y5 ?_;obtain⟨ay,K,b⟩:=vO m b;refine S (ix Z7.c j K) (Y2 ?_);obtain⟨az,L,b⟩:=qO rfl b;refine S (dy L) (Y1 ?_);obtain⟨aB,M,b⟩:=qO rfl b;refine S (dy M) (Y5 ?_);obtain⟨aC,N,b⟩:=vO (Q.uv (by omega)) b;refine aN.s0 (lg (f:=Z7.c) (l:=none) (r:=(some ((j:Nat):Int))) (TK rfl) rfl (TK rfl) rfl rfl trivial rfl N) rfl ?_;refine Y2 ?_
    obtain⟨aD,O,b⟩:=vO m b;refine Sd (ix Z7.c j O) (Y2 ?_);obtain⟨aE,P,b⟩:=vO rfl b;refine cH rfl rfl (A8 P) (Y7 ?_);refine bx 12 _ rfl (kl [1,2,3,4,9,10,11,13]) ?_;refine Y4 ?_;obtain⟨aF,R,b⟩:=vO m b;refine S (ix Z7.c j R) (Y4 ?_);obtain⟨aG,U,b⟩:=qO rfl b;refine Sc rfl rfl (DU U) ?_;obtain⟨y,W,b⟩:=qO rfl b
    refine SH (am Z5.c (TK rfl) rfl (TK rfl) (TK rfl) W) ?_;refine hq (tS H g 2 y) (Y6 ?_);obtain⟨aH,X,b⟩:=vO m b;refine Sd (ix Z7.c j X) (Y3 ?_);obtain⟨aI,Y,b⟩:=vO rfl b;refine cH rfl rfl (Il Y) (Y2 ?_);obtain⟨aK,v,b⟩:=cM b;refine cO b (fun Z b=>?_) (fun Z b=>?_)
    ·refine Y5 ?_;obtain⟨B,aa,b⟩:=qO rfl b;refine SH (am Z5.c (TK rfl) rfl (TK rfl) (TK rfl) aa) ?_;refine hq (tS H g 2 B) (Y2 ?_);exact u _ B wA (ku v b:)
    refine Y4 ?_;obtain⟨aL,ab,b⟩:=vO m b;refine Sd (ix Z7.c j ab) (Y3 ?_);obtain⟨aM,ad,b⟩:=vO rfl b;refine cH rfl rfl (DW ad) (Y2 ?_);refine cO b (fun ae b=>?_) (fun ae b=>?_)
    ·refine Y5 ?_;obtain⟨C,ag,b⟩:=qO rfl b;refine SH (am Z5.c (TK rfl) rfl (TK rfl) (TK rfl) ag) ?_;refine hq (tS H g 2 C) (Y2 ?_);exact u _ C wA (ku v b:)
    refine ah.skip ?_;exact u _ y wA (ku v b:)
   rintro aj b;try dsimp only at b
   refine Y5 ?_;exact I _ (aj,(j+1)) wA b (dl m)
  rw [oO] at b;have b:=ku G b;refine ah.exit ?_;obtain⟨aP,ak,b⟩:=bW b;exact F _ w wA (ku ak b:)
 rintro aQ b;try dsimp only at b
 refine Y4 ?_;refine ah.dV 8 rfl ?_;refine ry ?_;obtain rfl:=oJ b;refine bH.b9 H rfl ⟨rfl,rfl⟩ ?_;exact sy
def nw (a0:ai) (g:ag):List Z6->Nat->(Sl Z5)->Option ((Sl Z5))
 | [],j,k=>some k
 | q::r,j,k=>on (q) fun b=>(bV g.aa ([46]:Bs)).bind fun s=>(bV s b.aa).bind fun f=>on ((⟨g.an.nl,g.an.l.take j⟩:Sl Z6)) fun t=>on (rY (ag.mk 0 [] Sl.nil Sl.nil t Sl.nil Sl.nil) b.aa) fun u=>(nt b.aa false u.2 f).bind fun v=>(bf 24 k v).bind fun m=>on (fe a0 b.ax.aa) fun p=>on (oN a0 b.ax.aa) fun w=>Option.bind (bif (!w) then((bf 24 m (⟨false,[(Z5.mk 8 f)]⟩:Sl Z5)).bind fun y=>some y) else(on (iO b.ax.aa) fun z=>bif (((!z)&&p.2)&&(decide (p.1.ak=(5:Int)))) then((bf 24 m (⟨false,[(Z5.mk 10 f)]⟩:Sl Z5)).bind fun B=>some B) else(some m))) fun C=>(bV f ([40]:Bs)).bind fun E=>(r_ a0 b.az E ([41]:Bs)).bind fun F=>(bf 24 C F).bind fun G=>on (G) fun H=>nw a0 g (r) (j+1) H
def yD (a0:ai) (b:ag):Option (Sl Z5):=Option.bind (nw a0 b b.an.l 0 (Sl.nil:Sl Z5)) fun f=>on (f) fun g=>some g
theorem Qy {a0 j r}(b:yD a0 j=some r) (H:af) :AC Tryz.prog 55 [.agg (ai.c a0),.agg (ag.c j)] H (RT (.a (.d (Sl.d 2 Z5.c none r))) H):=by
 unfold yD at b;refine AC.oW 95 [.tmp 4] Tryz.call55 Tryz.func55 ?_;refine ah.tok 2 fun g aw=>?_;refine Y3 ?_;refine s0 (di (k':=2) rfl) rfl ?_;refine Y4 ?_;refine ah.fK 5 2 g rfl aA ?_;refine aR kN (fun(z:(Sl Z5))=>[(5,.a (.d (Sl.d 2 Z5.c (some g) z)))]) (fun z=>(tS H g 2 z)) (fun z=>(some z)=some r) ?_ ?_
 ·intro ax G;refine Y4 ?_;obtain⟨m,I,b⟩:=bZ b;refine bD (tl [2,3]) (fun(z:(Sl Z5)×Nat)=>[(5,.a (.d (Sl.d 2 Z5.c (some g) z.1))),(6,vi z.2)]) (fun z=>(tS H g 2 z.1)) (fun z=>j.an.l.length-z.2) (fun z=>Option.bind (nw a0 j (j.an.l.drop z.2) z.2 z.1) m=some r) ((Sl.nil:Sl Z5),0) b wA ?_;rintro ⟨v,k⟩ b ay J;try dsimp only at b
  refine ar fun aB K=>Y4 ?_;refine aT Z6.c j.an fun aC=>Y2 ?_;refine ah.bL (fun l=>Option.bind (nw a0 j l k v) m=some r) b rfl (fun aD w q b=>?_) (fun q b=>?_)
  ·rw [nw] at b;try dsimp only at q
   have aE:=oD q;refine sk K (aR (tl [2,3,6]) (fun(z:(Sl Z5))=>[(5,.a (.d (Sl.d 2 Z5.c (some g) z)))]) (fun z=>(tS H g 2 z)) (fun z=>Option.bind (nw a0 j (j.an.l.drop (k+1)) (k+1) z) m=some r) ?_ ?_)
   ·intro aF L;refine Y5 ?_;obtain⟨M,N,b⟩:=vO w b;refine S (ix Z6.c k N) (Y4 ?_);refine bx 7 _ rfl (kl [2,3,5,6]) ?_;refine Y3 ?_;obtain⟨aG,O,b⟩:=qO rfl b;refine S (dy O) (Y2 ?_);obtain⟨P,R,b⟩:=qO rfl b;refine S (dy R) (Y6 ?_);obtain⟨aH,U,b⟩:=vO (Q.uv (by omega)) b
    refine aN.s0 (lg (f:=Z6.c) (l:=none) (r:=(some ((k:Nat):Int))) (TK rfl) rfl (TK rfl) rfl rfl trivial rfl U) rfl ?_;refine Y3 ?_;obtain⟨aI,W,b⟩:=vO rfl b;refine cH rfl rfl (Ik W) (Y7 ?_);refine bx 9 _ rfl (kl [2,3,5,6,7,8,10]) ?_;refine Y6 ?_;obtain⟨aK,X,b⟩:=qO rfl b;refine Sc rfl rfl (DU X) ?_;obtain⟨y,Y,b⟩:=qO rfl b
    refine SH (am Z5.c (TK rfl) rfl (TK rfl) (TK rfl) Y) ?_;refine hq (tS H g 2 y) (Y7 ?_);obtain⟨aL,Z,b⟩:=vO rfl b;refine Sc rfl rfl (l_ Z) (Y7 ?_);refine bx 11 _ rfl (kl [2,3,5,6,7,8,12]) ?_
    refine aR (tl [2,3,6,7,8]) (fun(z:(Sl Z5))=>[(5,.a (.d (Sl.d 2 Z5.c (some g) z)))]) (fun z=>(tS H g 2 z)) (fun z=>Option.bind ((bV P ([40]:Bs)).bind fun B=>(r_ a0 M.az B ([41]:Bs)).bind fun C=>(bf 24 z C).bind fun p=>on (p) fun s=>nw a0 j (j.an.l.drop (k+1)) (k+1) s) m=some r) ?_ ?_
    ·intro aM t;refine Y5 ?_;obtain⟨aP,aa,b⟩:=vO rfl b;refine Sc rfl rfl (Il aa) (Y2 ?_);obtain⟨aQ,u,b⟩:=cM b;refine cO b (fun ab b=>?_) (fun ab b=>?_)
     ·refine Y5 ?_;obtain⟨E,ad,b⟩:=qO rfl b;refine SH (am Z5.c (TK rfl) rfl (TK rfl) (TK rfl) ad) ?_;refine hq (tS H g 2 E) (Y2 ?_);exact t _ E wA (ku u b:)
     refine Y4 ?_;obtain⟨aU,ae,b⟩:=vO rfl b;refine Sc rfl rfl (uz ae) (Y6 ?_);refine Gk 77 ?_;refine Gk 78 ?_;refine Y2 ?_;refine cO b (fun aj b=>?_) (fun aj b=>?_)
     ·refine Y5 ?_;obtain⟨F,ak,b⟩:=qO rfl b;refine SH (am Z5.c (TK rfl) rfl (TK rfl) (TK rfl) ak) ?_;refine hq (tS H g 2 F) (Y2 ?_);exact t _ F wA (ku u b:)
     refine ah.skip ?_;exact t _ y wA (ku u b:)
    rintro aV b;try dsimp only at b
    refine Y6 ?_;obtain⟨B,al,b⟩:=qO rfl b;refine S (dy al) ?_;obtain⟨C,ao,b⟩:=qO rfl b;refine Sc rfl rfl (Im ao) ?_;obtain⟨p,ap,b⟩:=qO rfl b;refine SH (am Z5.c (TK rfl) rfl (TK rfl) (TK rfl) ap) ?_;refine hq (tS H g 2 p) (Y2 ?_);obtain⟨aW,au,b⟩:=gM b;exact L _ p wA (ku au b:)
   rintro s b;try dsimp only at b
   refine Y5 ?_;exact J _ (s,(k+1)) wA b (dl w)
  rw [nw] at b;have b:=ku I b;refine ah.exit ?_;obtain⟨aX,av,b⟩:=bW b;exact G _ v wA (ku av b:)
 rintro aY b;try dsimp only at b
 refine Y4 ?_;refine ah.dV 4 rfl ?_;refine ry ?_;obtain rfl:=oJ b;refine bH.b9 H rfl ⟨rfl,rfl⟩ ?_;exact sy
def ql (a0:ag) (g:Z8):Nat->Nat->Bool->Option (Bool)
 | 0,f,b=>some b
 | j+1,f,b=>aY (!b) (a0.au.l[f]?) Z8.zero fun k=>ql a0 g (j) (f+1) (b||((k.aa==g.aa)))
def mc (a0:ag):List Z8->Nat->(Sl Z5)->Option ((Sl Z5))
 | [],f,g=>some g
 | j::k,f,g=>on (j) fun b=>Option.bind (ql a0 b f 0 false) fun l=>on (l) fun m=>(bV a0.aa ([46]:Bs)).bind fun p=>(bV p b.aa).bind fun q=>(nt b.aa ((((b.aa==([116,114,117,101]:Bs)))||((b.aa==([102,97,108,115,101]:Bs))))||((b.aa==([110,117,108,108]:Bs)))) m q).bind fun r=>(bf 24 g r).bind fun s=>on (s) fun t=>mc a0 (k) (f+1) t
def yE (a0:ag):Option (Sl Z5):=Option.bind (mc a0 a0.au.l 0 (Sl.nil:Sl Z5)) fun b=>on (b) fun f=>some f
theorem Qz {a0 r}(b:yE a0=some r) (H:af) :AC Tryz.prog 56 [.agg (ag.c a0)] H (RT (.a (.d (Sl.d 2 Z5.c none r))) H):=by
 unfold yE at b;refine AC.oW 58 [.tmp 2] Tryz.call56 Tryz.func56 ?_;refine ah.tok 2 fun f aj=>?_;refine Y2 ?_;refine s0 (di (k':=2) rfl) rfl ?_;refine Y4 ?_;refine ah.fK 3 2 f rfl aA ?_;refine aR kN (fun(z:(Sl Z5))=>[(3,.a (.d (Sl.d 2 Z5.c (some f) z)))]) (fun z=>(tS H f 2 z)) (fun z=>(some z)=some r) ?_ ?_
 ·intro ak C;refine Y4 ?_;obtain⟨m,E,b⟩:=bZ b;refine bD (tl [1]) (fun(z:(Sl Z5)×Nat)=>[(3,.a (.d (Sl.d 2 Z5.c (some f) z.1))),(4,vi z.2)]) (fun z=>(tS H f 2 z.1)) (fun z=>a0.au.l.length-z.2) (fun z=>Option.bind (mc a0 (a0.au.l.drop z.2) z.2 z.1) m=some r) ((Sl.nil:Sl Z5),0) b wA ?_;rintro ⟨k,g⟩ b al F;refine ar fun an G=>Y4 ?_
  refine aT Z8.c a0.au fun ao=>Y2 ?_;refine ah.bL (fun l=>Option.bind (mc a0 l g k) m=some r) b rfl (fun ap u I b=>?_) (fun I b=>?_)
  ·rw [mc] at b;refine sk G (aR (tl [1,4]) (fun(z:(Sl Z5))=>[(3,.a (.d (Sl.d 2 Z5.c (some f) z)))]) (fun z=>(tS H f 2 z)) (fun z=>Option.bind (mc a0 (a0.au.l.drop (g+1)) (g+1) z) m=some r) ?_ ?_)
   ·intro av J;refine Y5 ?_;obtain⟨j,K,b⟩:=vO u b;refine S (ix Z8.c g K) (Y7 ?_)
    refine aR (tl [1,3,4,5]) (fun(z:Bool)=>[(6,.a (.d (.bool z)))]) (fun z=>(tS H f 2 k)) (fun z=>Option.bind ((bV a0.aa ([46]:Bs)).bind fun v=>(bV v j.aa).bind fun w=>(nt j.aa ((((j.aa==([116,114,117,101]:Bs)))||((j.aa==([102,97,108,115,101]:Bs))))||((j.aa==([110,117,108,108]:Bs)))) z w).bind fun y=>(bf 24 k y).bind fun p=>on (p) fun q=>mc a0 (a0.au.l.drop (g+1)) (g+1) q) m=some r) ?_ ?_
    ·intro aw L;refine Y4 ?_;obtain⟨B,M,b⟩:=cM b;refine bD (tl [1,3,4,5]) (fun(z:Bool×Nat)=>[(6,.a (.d (.bool z.1))),(7,vi z.2)]) (fun z=>(tS H f 2 k)) (fun z=>g-z.2) (fun z=>Option.bind (ql a0 j (g-z.2) z.2 z.1) B=some r) (false,0) b wA ?_;rintro ⟨s,t⟩ b ax N;refine ar fun ay O=>Y5 ?_
     refine ah.HK (fun l=>Option.bind (ql a0 j l t s) B=some r) b rfl (fun P Q b=>?_) (fun Q b=>?_)
     ·rw [ql] at b;refine sk O (ar fun az R=>Y5 ?_);refine Gk 28 ?_;refine Y1 ?_;obtain⟨U,W,b⟩:=e8 rfl b;refine e9 29 30 rfl rfl (fun hC=>ix Z8.c t (W hC)) ?_;refine Gk 31 ?_;refine Gk 32 ?_;refine Y1 ?_;refine G2 33 34 rfl rfl BS ?_;refine Y3 ?_;refine R _ ?_;refine Y5 ?_;exact N _ ((s||((U.aa==j.aa))),(t+1)) wA b (dn P)
     rw [ql] at b;have b:=ku M b;refine ah.exit ?_;obtain⟨aB,X,b⟩:=gM b;exact L _ s wA (ku X b:)
    rintro aC b;refine Y7 ?_;refine Gk 42 ?_;refine Y3 ?_;refine Gk 46 ?_;refine Y4 ?_;obtain⟨v,Y,b⟩:=qO rfl b;refine S (dy Y) (Y1 ?_);obtain⟨w,Z,b⟩:=qO rfl b;refine S (dy Z) ?_;obtain⟨y,ab,b⟩:=qO rfl b;refine Sc rfl rfl (DU ab) ?_;obtain⟨p,ad,b⟩:=qO rfl b;refine SH (am Z5.c (TK rfl) rfl (TK rfl) (TK rfl) ad) ?_;refine Y2 ?_;obtain⟨aD,ae,b⟩:=gM b
    exact J _ p wA (ku ae b:)
   rintro q b;refine Y5 ?_;exact F _ (q,(g+1)) wA b (dl u)
  rw [mc] at b;have b:=ku E b;refine ah.exit ?_;obtain⟨aE,ai,b⟩:=bW b;exact C _ k wA (ku ai b:)
 rintro aF b;refine Y4 ?_;refine ah.dV 2 rfl ?_;refine ry ?_;obtain rfl:=oJ b;refine bH.b9 H rfl ⟨rfl,rfl⟩ ?_;exact sy
def oP (a0:ai):List ag->Nat->(Sl Z5)->Option ((Sl Z5))
 | [],g,j=>some j
 | k::l,g,j=>on (k) fun b=>(DV a0 ((g:Nat):Int)).bind fun m=>(bf 24 j m).bind fun f=>on (bif (decide (b.ak=(1:Int))) then((decide (b.ak=(1:Int)))) else((decide (b.ak=(2:Int))))) fun p=>Option.bind (bif p then((yD a0 b).bind fun q=>(bf 24 f q).bind fun r=>some r) else(bif (decide (b.ak=(4:Int))) then((yE b).bind fun s=>(bf 24 f s).bind fun t=>some t) else(bif (decide (b.ak=(5:Int))) then((bV b.aa ([46]:Bs)).bind fun u=>(r_ a0 b.ay u ([]:Bs)).bind fun v=>(bf 24 f v).bind fun w=>some w) else(some f)))) fun y=>oP a0 (l) (g+1) y
def yF (a0:ai) (m:Bool):Option (Sl Z5):=Option.bind (oP a0 a0.aj.l 0 (Sl.nil:Sl Z5)) fun f=>on (f) fun b=>on (fe a0 ([81,117,101,114,121]:Bs)) fun g=>Option.bind (bif (m&&(!g.2)) then((bf 24 b (⟨false,[(Z5.mk 30 [81,117,101,114,121])]⟩:Sl Z5)).bind fun j=>some j) else(some b)) fun k=>some k
theorem QA {a0:ai}{q:Bool}{r:Sl Z5}(b:yF a0 q=some r) (H:af){f:Nat}(aC:H f=some (.tok 2 0)):AC Tryz.prog 25 [.agg (ai.c a0),.d (.bool q)] H fun v h'=>v=.a (.d (Sl.d 2 Z5.c (some f) r))/\h'=H.set f (some (.tok 2 r.l.length)):=by
 unfold yF at b;refine AC.oW 69 [.tmp 4] Tryz.call25 Tryz.func25 ?_;refine hz (H.set f (some (.tok 2 0))) (Y7 ?_);refine ah.fK 5 2 f rfl aA ?_
 refine aR (tl [1,2]) (fun(z:(Sl Z5))=>[(5,.a (.d (Sl.d 2 Z5.c (some f) z)))]) (fun z=>(tS H f 2 z)) (fun z=>(on (fe a0 ([81,117,101,114,121]:Bs)) fun s=>Option.bind (bif (q&&(!s.2)) then((bf 24 z (⟨false,[(Z5.mk 30 [81,117,101,114,121])]⟩:Sl Z5)).bind fun m=>some m) else(some z)) fun t=>some t)=some r) ?_ ?_
 ·intro aD F;refine Y4 ?_;obtain⟨p,G,b⟩:=bZ b;refine bD (tl [1,2]) (fun(z:(Sl Z5)×Nat)=>[(5,.a (.d (Sl.d 2 Z5.c (some f) z.1))),(6,vi z.2)]) (fun z=>(tS H f 2 z.1)) (fun z=>a0.aj.l.length-z.2) (fun z=>Option.bind (oP a0 (a0.aj.l.drop z.2) z.2 z.1) p=some r) ((Sl.nil:Sl Z5),0) b wA ?_;rintro ⟨u,g⟩ b aE I;refine ar fun aF J=>Y4 ?_
  refine aT ag.c a0.aj fun aG=>Y2 ?_;refine ah.bL (fun l=>Option.bind (oP a0 l g u) p=some r) b rfl (fun aH w K b=>?_) (fun K b=>?_)
  ·rw [oP] at b;refine sk J (aR (tl [1,2,6]) (fun(z:(Sl Z5))=>[(5,.a (.d (Sl.d 2 Z5.c (some f) z)))]) (fun z=>(tS H f 2 z)) (fun z=>Option.bind (oP a0 (a0.aj.l.drop (g+1)) (g+1) z) p=some r) ?_ ?_)
   ·intro aI j;refine Y5 ?_;obtain⟨y,L,b⟩:=vO w b;refine S (ix ag.c g L) (Y4 ?_);refine bx 7 _ rfl (kl [1,2,5,6]) ?_;refine Y4 ?_;obtain⟨aK,M,b⟩:=qO rfl b;refine Sc rfl rfl (Qw M) ?_;obtain⟨B,N,b⟩:=qO rfl b;refine SH (am Z5.c (TK rfl) rfl (TK rfl) (TK rfl) N) ?_;refine Y7 ?_;obtain⟨O,P,b⟩:=gM b
    refine aR (tl [1,2,5,6,7,28]) (fun(z:Bool)=>[(29,.a (.d (.bool z)))]) (fun z=>(tS H f 2 B)) (fun z=>O z=some r) ?_ ?_
    ·intro aL C;refine Y4 ?_;refine cP b (fun Q b=>?_) (fun Q b=>?_)
     ·refine ah.skip ?_;exact C _ (decide (y.ak=(1:Int))) wA b
     refine Y4 ?_;exact C _ (decide (y.ak=(2:Int))) wA b
    rintro aM b;have b:=ku P b;obtain⟨aP,k,b⟩:=cM b;refine cO b (fun R b=>?_) (fun R b=>?_)
    ·refine Y4 ?_;obtain⟨aQ,U,b⟩:=qO rfl b;refine Sc rfl rfl (Qy U) ?_;obtain⟨W,X,b⟩:=qO rfl b;refine SH (am Z5.c (TK rfl) rfl (TK rfl) (TK rfl) X) ?_;refine Y2 ?_;exact j _ W wA (ku k b:)
    refine Y4 ?_;refine cO b (fun Y b=>?_) (fun Y b=>?_)
    ·refine Y3 ?_;obtain⟨aU,Z,b⟩:=qO rfl b;refine Sc rfl rfl (Qz Z) ?_;obtain⟨aa,ab,b⟩:=qO rfl b;refine SH (am Z5.c (TK rfl) rfl (TK rfl) (TK rfl) ab) ?_;refine Y2 ?_;exact j _ aa wA (ku k b:)
    refine Y4 ?_;refine cO b (fun ad b=>?_) (fun ad b=>?_)
    ·refine Y7 ?_;obtain⟨aV,ae,b⟩:=qO rfl b;refine S (dy ae) ?_;obtain⟨aW,al,b⟩:=qO rfl b;refine Sc rfl rfl (Im al) ?_;obtain⟨an,ao,b⟩:=qO rfl b;refine SH (am Z5.c (TK rfl) rfl (TK rfl) (TK rfl) ao) ?_;refine Y2 ?_;exact j _ an wA (ku k b:)
    refine ah.skip ?_;exact j _ B wA (ku k b:)
   rintro ap b;refine Y5 ?_;exact I _ (ap,(g+1)) wA b (dl w)
  rw [oP] at b;have b:=ku G b;refine ah.exit ?_;obtain⟨aX,au,b⟩:=bW b;exact F _ u wA (ku au b:)
 rintro av b;refine Y2 ?_;obtain⟨s,aw,b⟩:=vT rfl b;refine Sc rfl rfl (l_ aw) (Y7 ?_);refine bx 8 _ rfl (kl [1,5,9]) ?_;obtain⟨ax,ay,b⟩:=bZ b;refine aR kN (fun(z:(Sl Z5))=>[(5,.a (.d (Sl.d 2 Z5.c (some f) z)))]) (fun z=>(tS H f 2 z)) (fun z=>ax z=some r) ?_ ?_
 ·intro aY E;refine Y4 ?_;refine Gk 61 ?_;refine Y2 ?_;refine cO b (fun az b=>?_) (fun az b=>?_)
  ·refine Y4 ?_;obtain⟨m,aB,b⟩:=qO rfl b;refine SH (am Z5.c (TK rfl) rfl (TK rfl) (TK rfl) aB) ?_;refine Y2 ?_;exact E _ m wA b
  refine ah.skip ?_;exact E _ av wA b
 rintro t b;have b:=ku ay b;refine Y4 ?_;exact rt b
def v8 (a0:ai) (b:Bs) (g:Int):Int:=on (fe a0 b) fun x3=>on (bif (!x3.2) then iO b else false) fun f=>bif ((!x3.2)&&(!f)) then((8:Int)) else(bif (!decide (x3.1.ak=g)) then((9:Int)) else((0:Int)))
theorem Io {a0 f g r}(b:some (v8 a0 f g)=some r) (H:af) :AC Tryz.prog 101 [.agg (ai.c a0),.d (.str f),.d (.int .i64 g)] H (RT (.a (.d (.int .i64 r))) H):=by
 unfold v8 at b;refine AC.oW 26 [.tmp 6] Tryz.call101 Tryz.func101 ?_;refine Y7 ?_;obtain⟨x3,j,b⟩:=vP rfl b;refine Sc rfl rfl (l_ j) (Y7 ?_);refine bx 7 _ rfl (kl [1,2,8]) ?_;refine ar fun s k=>Y5 ?_;obtain⟨t,l,b⟩:=jU (fun _=>rfl) b;refine dQ 18 rfl rfl rfl rfl rfl (fun hC=>uz (l hC)) ?_;refine Gk 19 ?_;refine Y2 ?_;refine cP b (fun m b=>?_) (fun m b=>?_)
 ·refine Y3 ?_;exact rt b
 refine sk k (ar fun u p=>Y6 ?_);refine cP b (fun q b=>?_) (fun q b=>?_)
 ·refine Y3 ?_;exact rt b
 refine sk p (Y3 ?_);exact rt b
def qm (b:Bs):List Bs->Unit ⊕ Bool
 | []=>Sum.inl ()
 | f::g=>on (f) fun j=>bif ((j==b)) then(Sum.inr true) else(qm b (g) )
def qn (a0:(Sl Bs)) (g:Bs):Bool:=on (qm g a0.l ) fun b=>match b with|Sum.inl _=>(on (()) fun _=>false)|Sum.inr f=>(f)
theorem DX {a0 f w0 r}(b:some (qn a0 f)=some r) (H:af) :AC Tryz.prog 102 [.d (Sl.d 1 aB w0 a0),.d (.str f)] H (RT (.a (.d (.bool r))) H):=by
 unfold qn at b;refine AC.oW 18 [.tmp 4] Tryz.call102 Tryz.func102 ?_;refine Y3 ?_;refine aR kN (fun(z:Unit)=>[]) (fun z=>H) (fun z=>some (false)=some r) ?_ ?_
 ·intro B p;refine Y4 ?_;obtain⟨g,j,b⟩:=dX b;refine bD (tl [0,1]) (fun(z:Nat)=>[(5,vi z)]) (fun z=>H) (fun z=>a0.l.length-z) (fun z=>g (qm f (a0.l.drop z) )=some r) 0 b wA ?_;rintro k b C q;refine ar fun E s=>Y3 ?_;refine aT aB a0 fun F=>Y2 ?_;refine ah.bL (fun l=>g (qm f l )=some r) b rfl (fun G m t b=>?_) (fun t b=>?_)
  ·rw [qm] at b;refine sk s (ar fun I u=>Y4 ?_);obtain⟨J,v,b⟩:=vP m b;refine S (ix aB k v) (Y4 ?_);refine cP b (fun w b=>?_) (fun w b=>?_)
   ·refine Y3 ?_;exact rs (ku j b:)
   refine sk u (Y5 ?_);exact q _ (k+1) wA b (dl m)
  rw [qm] at b;have b:=ku j b;refine ah.exit ?_;obtain⟨K,y,b⟩:=dX b;exact p _ () wA (ku y b:)
 rintro _ b;refine Y3 ?_;exact rt b
def oQ (f:(Sl Int)):List Int->Nat->Option (Unit ⊕ Bool)
 | [],b=>some (Sum.inl ())
 | g::j,b=>on (g) fun k=>(f.l[b]?).bind fun m=>bif (!decide (k=m)) then(some (Sum.inr false)) else(oQ f (j) (b+1) )
def uA (a0:(Sl Int)) (b:(Sl Int)):Option Bool:=bif (!decide (((a0.l.length:Nat):Int)=((b.l.length:Nat):Int))) then(some false) else(Option.bind (oQ b a0.l 0 ) fun f=>match f with|Sum.inl _=>(on (()) fun _=>some true)|Sum.inr g=>(some g))
def DY (a0:(Sl Int)) (b:(Sl Int)):Option Bool:=uA a0 b
theorem Yo (a0:(Sl Int)) (a1:(Sl Int)):DY a0 a1=uA a0 a1:=rfl
theorem QB {a0 f w0 p r}(b:DY a0 f=some r) (H:af) :AC Tryz.prog 94 [.d (Sl.d 1 (bI .i64) w0 a0),.d (Sl.d 1 (bI .i64) p f)] H (RT (.a (.d (.bool r))) H):=by
 unfold DY uA at b;refine AC.oW 26 [.tmp 4] Tryz.call94 Tryz.func94 ?_;refine Y3 ?_;refine ar fun G q=>Y2 ?_;refine aT (bI .i64) a0 fun I=>Y1 ?_;refine aT (bI .i64) f fun J=>Y2 ?_;refine cE b (fun s b=>?_) (fun s b=>?_)
 ·refine Y3 ?_;exact rt b
 refine sk q (aR kN (fun(z:Unit)=>[]) (fun z=>H) (fun z=>(some true)=some r) ?_ ?_)
 ·intro K t;refine Y4 ?_;obtain⟨j,k,b⟩:=bZ b;refine bD (tl [0,1]) (fun(z:Nat)=>[(5,vi z)]) (fun z=>H) (fun z=>a0.l.length-z) (fun z=>Option.bind (oQ f (a0.l.drop z) z ) j=some r) 0 b wA ?_;rintro g b L u;refine ar fun M v=>Y3 ?_;refine aT (bI .i64) a0 fun N=>Y2 ?_
  refine ah.bL (fun l=>Option.bind (oQ f l g ) j=some r) b rfl (fun O m w b=>?_) (fun w b=>?_)
  ·rw [oQ] at b;refine sk v (ar fun P y=>Y4 ?_);obtain⟨Q,B,b⟩:=vO m b;refine Sd (ix (bI .i64) g B) (Y3 ?_);obtain⟨R,C,b⟩:=qO rfl b;refine Sd (ix (bI .i64) g C) (Y3 ?_);refine cO b (fun E b=>?_) (fun E b=>?_)
   ·refine Y3 ?_;exact rs (ku k b:)
   refine sk y (Y5 ?_);exact u _ (g+1) wA b (dl m)
  rw [oQ] at b;have b:=ku k b;refine ah.exit ?_;obtain⟨S,F,b⟩:=bW b;exact t _ () wA (ku F b:)
 rintro _ b;refine Y3 ?_;exact rt b
def qo (a0:aL) (b:aL):Option Bool:=aY (((a0.aa==b.aa))) (uA a0.aK b.aK) false fun x3=>some (((a0.aa==b.aa))&&x3)
theorem DZ {a0 f r}(b:qo a0 f=some r) (H:af) :AC Tryz.prog 52 [.agg (aL.c a0),.agg (aL.c f)] H (RT (.a (.d (.bool r))) H):=by
 unfold qo at b;refine AC.oW 17 [.tmp 4] Tryz.call52 Tryz.func52 ?_;refine HY ?_;refine Gk 11 ?_;refine Y1 ?_;refine Gk 13 ?_;obtain⟨x3,g,b⟩:=eE rfl b;refine fE 12 14 rfl rfl rfl rfl rfl rfl (fun hC=>QB (g hC)) ?_;refine Y3 ?_;exact rt b
end Go.Proofs
