import Derived.Test.YtgkmefkmmafocaaGreatDoorE3
import Derived.Test.YtgkmefkmmafocaaGreatDoorTab
set_option maxRecDepth 100000
set_option maxHeartbeats 2000000
set_option linter.unusedVariables false
set_option linter.unusedSimpArgs false
namespace Go.Proofs
open Go Go.Ab
inductive ag where
 | mk (ar:Int) (bx:Int) (bw:Bs) (OU:Bool) (OV:List ag) (a_:(Sl Bs))
def ag.ar:ag->Int|.mk x _ _ _ _ _=>x
def ag.bx:ag->Int|.mk _ x _ _ _ _=>x
def ag.bw:ag->Bs|.mk _ _ x _ _ _=>x
def ag.aN:ag->(Sl ag)|.mk _ _ _ nl l _=>⟨nl,l⟩
def ag.a_:ag->(Sl Bs)|.mk _ _ _ _ _ x=>x
noncomputable def ag.BM:ag->D:=@ag.rec (fun _=>D) (fun _=>List (List D)) (fun _ _ _ nl _ _ b=>.slice 5 none nl b) [] (fun v _ b f=>((bJ .i64) v.ar++(bJ .i64) v.bx++aI v.bw++[b]++(fun s=>[Sl.d 1 aI none s]) v.a_)::f)
noncomputable def ag.c (v:ag):List D:=(bJ .i64) v.ar++(bJ .i64) v.bx++aI v.bw++[v.BM]++(fun s=>[Sl.d 1 aI none s]) v.a_
theorem ag.dB (v:ag):v.BM=Sl.d 5 ag.c none v.aN:=by
 cases v with
 | mk f g i nl l j =>
  show D.slice 5 none nl _=D.slice 5 none nl (l.map ag.c)
  congr 1
  induction l with
  | nil=>rfl
  | cons a r b=>exact congrArg (ag.c a::·) b
noncomputable def ag.cu (v:ag):List D:=(bJ .i64) v.ar++(bJ .i64) v.bx++aI v.bw++[Sl.d 5 ag.c none v.aN]++(fun s=>[Sl.d 1 aI none s]) v.a_
theorem ag.l8 (v:ag):v.c=v.cu:=by unfold ag.c ag.cu; rw [ag.dB]
def ag.zero:ag:=.mk (0:Int) (0:Int) ([]:Bs) true [] (Sl.nil:Sl Bs)
structure bz where
 aa:Bs
 eW:ag
noncomputable def bz.c (x:bz):List D:=aI x.aa++ag.c x.eW
def bz.zero:bz:=⟨([]:Bs),ag.zero⟩
structure av where
 aa:Bs
 aF:(Sl bz)
noncomputable def av.c (x:av):List D:=[.str x.aa,Sl.d 6 bz.c none x.aF]
def av.zero:av:=⟨([]:Bs),(Sl.nil:Sl bz)⟩
structure aG where
 aa:Bs
 aK:(Sl Int)
noncomputable def aG.c (x:aG):List D:=[.str x.aa,Sl.d 1 (bJ .i64) none x.aK]
def aG.zero:aG:=⟨([]:Bs),(Sl.nil:Sl Int)⟩
structure Z8 where
 aa:Bs
 aA:aG
 cT:Bool
 dD:ag
 bh:(Sl av)
noncomputable def Z8.c (x:Z8):List D:=aI x.aa++aG.c x.aA++td x.cT++ag.c x.dD++(fun s=>[Sl.d 2 av.c none s]) x.bh
def Z8.zero:Z8:=⟨([]:Bs),aG.zero,false,ag.zero,(Sl.nil:Sl av)⟩
structure Z7 where
 aa:Bs
 aF:(Sl Z8)
 aA:aG
 bh:(Sl av)
noncomputable def Z7.c (x:Z7):List D:=aI x.aa++(fun s=>[Sl.d 10 Z8.c none s]) x.aF++aG.c x.aA++(fun s=>[Sl.d 2 av.c none s]) x.bh
def Z7.zero:Z7:=⟨([]:Bs),(Sl.nil:Sl Z8),aG.zero,(Sl.nil:Sl av)⟩
structure Z9 where
 aa:Bs
 bh:(Sl av)
noncomputable def Z9.c (x:Z9):List D:=[.str x.aa,Sl.d 2 av.c none x.bh]
def Z9.zero:Z9:=⟨([]:Bs),(Sl.nil:Sl av)⟩
structure ai where
 ar:Int
 aa:Bs
 aW:(Sl Bs)
 bh:(Sl av)
 ay:(Sl Z7)
 aJ:(Sl Z9)
 aM:(Sl Z8)
noncomputable def ai.c (x:ai):List D:=[.int .i64 x.ar,.str x.aa,Sl.d 1 aI none x.aW,Sl.d 2 av.c none x.bh,Sl.d 5 Z7.c none x.ay,Sl.d 2 Z9.c none x.aJ,Sl.d 10 Z8.c none x.aM]
def ai.zero:ai:=⟨(0:Int),([]:Bs),(Sl.nil:Sl Bs),(Sl.nil:Sl av),(Sl.nil:Sl Z7),(Sl.nil:Sl Z9),(Sl.nil:Sl Z8)⟩
structure aj where
 an:(Sl ai)
noncomputable def aj.c (x:aj):List D:=[Sl.d 7 ai.c none x.an]
def aj.zero:aj:=⟨(Sl.nil:Sl ai)⟩
structure Z6 where
 Ie:Int
 Ig:Bs
def Z6.c (x:Z6):List D:=[.int .i64 x.Ie,.str x.Ig]
structure Z3 where
 q5:(Sl Bs)
 BN:(Sl Bs)
noncomputable def Z3.c (x:Z3):List D:=[Sl.d 1 aI none x.q5,Sl.d 1 aI none x.BN]
structure Z2 where
 Fd:aj
 eT:Bool
noncomputable def Z2.c (x:Z2):List D:=aj.c x.Fd++td x.eT
structure Z5 where
 Fd:aj
 b9:(Sl Z6)
noncomputable def Z5.cg (t1:Option Nat) (x:Z5):List D:=aj.c x.Fd++[Sl.d 2 Z6.c t1 x.b9]
structure Z0 where
 Fd:aj
 iv:(Sl Z6)
noncomputable def Z0.cg (t1:Option Nat) (x:Z0):List D:=aj.c x.Fd++[Sl.d 2 Z6.c t1 x.iv]
structure Z1 where
 Fd:aj
 dW:ag
 OW:Bool
 OX:Int
structure Z4 where
 Fd:aj
 dW:ag
 c7:Bool
 de:Int
 b6:Int
noncomputable def Z4.c (x:Z4):List D:=aj.c x.Fd++ag.c x.dW++td x.c7++(bJ .i64) x.de++(bJ .i64) x.b6
end Go.Proofs
namespace Go.Proofs
open Go Go.Ab Go.RowKit
section
variable {H:Type}{B:DataW H->Nat}(hB:q4 B)
noncomputable def ag.sz:ag->Nat:=@ag.rec (fun _=>Nat) (fun _=>Nat) (fun f g i nl l j b=>(fun _=>1) f+((fun _=>1) g+(Bs.sz i+((1+b)+((Sl.sz Bs.sz) j+(0)))))) 0 (fun _ _ b k=>b+k)
noncomputable def ag.BO:List ag->Nat:=@ag.rec_1 (fun _=>Nat) (fun _=>Nat) (fun f g i nl l j b=>(fun _=>1) f+((fun _=>1) g+(Bs.sz i+((1+b)+((Sl.sz Bs.sz) j+(0)))))) 0 (fun _ _ b k=>b+k)
theorem ag.Ih (l:List ag):ag.BO l=(l.map ag.sz).sum:=by
 induction l with
 | nil=>rfl
 | cons a r b=>exact congrArg (ag.sz a+·) b
theorem ag.BP (x:ag):x.sz=(fun _=>1) x.ar+((fun _=>1) x.bx+(Bs.sz x.bw+((Sl.sz ag.sz) x.aN+((Sl.sz Bs.sz) x.a_+(0))))):=by
 cases x with
 | mk b f g nl l i =>
  show (fun _=>1) b+((fun _=>1) f+(Bs.sz g+((1+ag.BO l)+((Sl.sz Bs.sz) i+(0)))))=_;rw [ag.Ih]; rfl
def ag.wf:ag->Prop:=@ag.rec (fun _=>Prop) (fun _=>Prop) (fun f g i nl l j b=>i64 f/\(i64 g/\((fun _=>True) i/\(((nl=true->l=[])/\l.length<=cq/\b)/\((Sl.wf (fun _=>True)) j/\(True)))))) True (fun _ _ b k=>b/\k)
def ag.v7:List ag->Prop:=@ag.rec_1 (fun _=>Prop) (fun _=>Prop) (fun f g i nl l j b=>i64 f/\(i64 g/\((fun _=>True) i/\(((nl=true->l=[])/\l.length<=cq/\b)/\((Sl.wf (fun _=>True)) j/\(True)))))) True (fun _ _ b k=>b/\k)
theorem ag.Ii (l:List ag):ag.v7 l↔∀x∈l,ag.wf x:=by
 induction l with
 | nil=>exact⟨fun _ _ h=>(by cases h),fun _=>trivial⟩
 | cons a r b =>
  show (ag.wf a/\ag.v7 r)↔_;rw [b]; simp
theorem ag.pg (x:ag):x.wf↔i64 x.ar/\(i64 x.bx/\((fun _=>True) x.bw/\((Sl.wf ag.wf) x.aN/\((Sl.wf (fun _=>True)) x.a_/\(True))))):=by
 cases x with
 | mk b f g nl l i =>
  show (i64 b/\(i64 f/\((fun _=>True) g/\(((nl=true->l=[])/\l.length<=cq/\ag.v7 l)/\((Sl.wf (fun _=>True)) i/\(True))))))↔_;rw [ag.Ii]; exact Iff.rfl
include hB in
theorem BQ:∀N,cB Tryz.prog B N 61 ag.c ag.sz ag.wf:=by
 have key:∀N M,M<=N->cB Tryz.prog B M 61 ag.c ag.sz ag.wf:=by
  intro N;induction N with
  | zero=>intro M f; rw [Nat.le_zero.1 f]; exact .zero
  | succ N g =>
   intro M f;cases M with
   | zero=>exact .zero
   | succ b =>
    have i:cB Tryz.prog B b 59 (fun s:Sl ag=>[Sl.d 5 ag.c none s]) (Sl.sz ag.sz) (Sl.wf ag.wf):=by
     cases b with
     | zero=>exact .zero
     | succ M=>exact cZ.BL hB (Tryz.bt 59 _ rfl) rfl (Tryz.bt 61 _ rfl) rfl (by decide) (fun _=>rfl) (g M (by omega))
    refine cB.struct hB (Tryz.bt 61 _ rfl) rfl (cn.cons (n:=5) (o:=0) (o':=1) (Tryz.bt 3 _ rfl) rfl ((cZ.int hB (Tryz.bt 3 _ rfl) rfl) b) (cn.cons (n:=5) (o:=1) (o':=2) (Tryz.bt 3 _ rfl) rfl ((cZ.int hB (Tryz.bt 3 _ rfl) rfl) b) (cn.cons (n:=5) (o:=2) (o':=3) (Tryz.bt 9 _ rfl) rfl ((cZ.str hB (Tryz.bt 9 _ rfl) rfl) b) (cn.cons (n:=5) (o:=3) (o':=4) (Tryz.bt 59 _ rfl) rfl i (cn.cons (n:=5) (o:=4) (o':=5) (Tryz.bt 42 _ rfl) rfl ((cZ.slice hB (Tryz.bt 42 _ rfl) rfl (Tryz.bt 9 _ rfl) rfl (by decide) (fun _=>rfl) (cZ.str hB (Tryz.bt 9 _ rfl) rfl)) b) (cn.nil (n:=5))))))) (fun a=>ag.mk a.1 a.2.1 a.2.2.1 a.2.2.2.1.nl a.2.2.2.1.l a.2.2.2.2.1) (fun a=>?_) (fun a=>by rw [ag.BP]; exact Nat.le_refl _) (fun a h=>by rw [ag.pg]; exact h)
    unfold ag.c;rw [ag.dB];rfl
 exact fun N=>key N N (Nat.le_refl _)
noncomputable def bz.sz (x:bz):Nat:=Bs.sz x.aa+(ag.sz x.eW+(0))
def bz.wf (x:bz):Prop:=(fun _=>True) x.aa/\(ag.wf x.eW/\(True))
include hB in
theorem Ij:∀N,cB Tryz.prog B N 72 bz.c bz.sz bz.wf:=l6.struct hB (Tryz.bt 72 _ rfl) rfl (fun b=>(cn.cons (n:=6) (o:=0) (o':=1) (Tryz.bt 9 _ rfl) rfl ((cZ.str hB (Tryz.bt 9 _ rfl) rfl) b) (cn.cons (n:=6) (o:=1) (o':=6) (Tryz.bt 61 _ rfl) rfl ((BQ hB) b) (cn.nil (n:=6))))) (fun a=>(⟨a.1,a.2.1⟩:bz)) (fun _=>rfl) (fun _=>Nat.le_refl _) (fun _ h=>h)
noncomputable def av.sz (x:av):Nat:=Bs.sz x.aa+((Sl.sz bz.sz) x.aF+(0))
def av.wf (x:av):Prop:=(fun _=>True) x.aa/\((Sl.wf bz.wf) x.aF/\(True))
include hB in
theorem tA:∀N,cB Tryz.prog B N 75 av.c av.sz av.wf:=l6.struct hB (Tryz.bt 75 _ rfl) rfl (fun b=>(cn.cons (n:=2) (o:=0) (o':=1) (Tryz.bt 9 _ rfl) rfl ((cZ.str hB (Tryz.bt 9 _ rfl) rfl) b) (cn.cons (n:=2) (o:=1) (o':=2) (Tryz.bt 73 _ rfl) rfl ((cZ.slice hB (Tryz.bt 73 _ rfl) rfl (Tryz.bt 72 _ rfl) rfl (by decide) (fun _=>rfl) (Ij hB)) b) (cn.nil (n:=2))))) (fun a=>(⟨a.1,a.2.1⟩:av)) (fun _=>rfl) (fun _=>Nat.le_refl _) (fun _ h=>h)
noncomputable def aG.sz (x:aG):Nat:=Bs.sz x.aa+((Sl.sz (fun _=>1)) x.aK+(0))
def aG.wf (x:aG):Prop:=(fun _=>True) x.aa/\((Sl.wf i64) x.aK/\(True))
include hB in
theorem BR:∀N,cB Tryz.prog B N 35 aG.c aG.sz aG.wf:=l6.struct hB (Tryz.bt 35 _ rfl) rfl (fun b=>(cn.cons (n:=2) (o:=0) (o':=1) (Tryz.bt 9 _ rfl) rfl ((cZ.str hB (Tryz.bt 9 _ rfl) rfl) b) (cn.cons (n:=2) (o:=1) (o':=2) (Tryz.bt 33 _ rfl) rfl ((cZ.slice hB (Tryz.bt 33 _ rfl) rfl (Tryz.bt 3 _ rfl) rfl (by decide) (fun _=>rfl) (cZ.int hB (Tryz.bt 3 _ rfl) rfl)) b) (cn.nil (n:=2))))) (fun a=>(⟨a.1,a.2.1⟩:aG)) (fun _=>rfl) (fun _=>Nat.le_refl _) (fun _ h=>h)
noncomputable def Z8.sz (x:Z8):Nat:=Bs.sz x.aa+(aG.sz x.aA+((fun _=>1) x.cT+(ag.sz x.dD+((Sl.sz av.sz) x.bh+(0)))))
def Z8.wf (x:Z8):Prop:=(fun _=>True) x.aa/\(aG.wf x.aA/\((fun _=>True) x.cT/\(ag.wf x.dD/\((Sl.wf av.wf) x.bh/\(True)))))
include hB in
theorem BT:∀N,cB Tryz.prog B N 63 Z8.c Z8.sz Z8.wf:=l6.struct hB (Tryz.bt 63 _ rfl) rfl (fun b=>(cn.cons (n:=10) (o:=0) (o':=1) (Tryz.bt 9 _ rfl) rfl ((cZ.str hB (Tryz.bt 9 _ rfl) rfl) b) (cn.cons (n:=10) (o:=1) (o':=3) (Tryz.bt 35 _ rfl) rfl ((BR hB) b) (cn.cons (n:=10) (o:=3) (o':=4) (Tryz.bt 4 _ rfl) rfl ((cZ.bool hB (Tryz.bt 4 _ rfl) rfl) b) (cn.cons (n:=10) (o:=4) (o':=9) (Tryz.bt 61 _ rfl) rfl ((BQ hB) b) (cn.cons (n:=10) (o:=9) (o':=10) (Tryz.bt 36 _ rfl) rfl ((cZ.slice hB (Tryz.bt 36 _ rfl) rfl (Tryz.bt 75 _ rfl) rfl (by decide) (fun _=>rfl) (tA hB)) b) (cn.nil (n:=10)))))))) (fun a=>(⟨a.1,a.2.1,a.2.2.1,a.2.2.2.1,a.2.2.2.2.1⟩:Z8)) (fun _=>rfl) (fun _=>Nat.le_refl _) (fun _ h=>h)
noncomputable def Z7.sz (x:Z7):Nat:=Bs.sz x.aa+((Sl.sz Z8.sz) x.aF+(aG.sz x.aA+((Sl.sz av.sz) x.bh+(0))))
def Z7.wf (x:Z7):Prop:=(fun _=>True) x.aa/\((Sl.wf Z8.wf) x.aF/\(aG.wf x.aA/\((Sl.wf av.wf) x.bh/\(True))))
include hB in
theorem Ik:∀N,cB Tryz.prog B N 40 Z7.c Z7.sz Z7.wf:=l6.struct hB (Tryz.bt 40 _ rfl) rfl (fun b=>(cn.cons (n:=5) (o:=0) (o':=1) (Tryz.bt 9 _ rfl) rfl ((cZ.str hB (Tryz.bt 9 _ rfl) rfl) b) (cn.cons (n:=5) (o:=1) (o':=2) (Tryz.bt 38 _ rfl) rfl ((cZ.slice hB (Tryz.bt 38 _ rfl) rfl (Tryz.bt 63 _ rfl) rfl (by decide) (fun _=>rfl) (BT hB)) b) (cn.cons (n:=5) (o:=2) (o':=4) (Tryz.bt 35 _ rfl) rfl ((BR hB) b) (cn.cons (n:=5) (o:=4) (o':=5) (Tryz.bt 36 _ rfl) rfl ((cZ.slice hB (Tryz.bt 36 _ rfl) rfl (Tryz.bt 75 _ rfl) rfl (by decide) (fun _=>rfl) (tA hB)) b) (cn.nil (n:=5))))))) (fun a=>(⟨a.1,a.2.1,a.2.2.1,a.2.2.2.1⟩:Z7)) (fun _=>rfl) (fun _=>Nat.le_refl _) (fun _ h=>h)
noncomputable def Z9.sz (x:Z9):Nat:=Bs.sz x.aa+((Sl.sz av.sz) x.bh+(0))
def Z9.wf (x:Z9):Prop:=(fun _=>True) x.aa/\((Sl.wf av.wf) x.bh/\(True))
include hB in
theorem Il:∀N,cB Tryz.prog B N 65 Z9.c Z9.sz Z9.wf:=l6.struct hB (Tryz.bt 65 _ rfl) rfl (fun b=>(cn.cons (n:=2) (o:=0) (o':=1) (Tryz.bt 9 _ rfl) rfl ((cZ.str hB (Tryz.bt 9 _ rfl) rfl) b) (cn.cons (n:=2) (o:=1) (o':=2) (Tryz.bt 36 _ rfl) rfl ((cZ.slice hB (Tryz.bt 36 _ rfl) rfl (Tryz.bt 75 _ rfl) rfl (by decide) (fun _=>rfl) (tA hB)) b) (cn.nil (n:=2))))) (fun a=>(⟨a.1,a.2.1⟩:Z9)) (fun _=>rfl) (fun _=>Nat.le_refl _) (fun _ h=>h)
noncomputable def ai.sz (x:ai):Nat:=(fun _=>1) x.ar+(Bs.sz x.aa+((Sl.sz Bs.sz) x.aW+((Sl.sz av.sz) x.bh+((Sl.sz Z7.sz) x.ay+((Sl.sz Z9.sz) x.aJ+((Sl.sz Z8.sz) x.aM+(0)))))))
def ai.wf (x:ai):Prop:=i64 x.ar/\((fun _=>True) x.aa/\((Sl.wf (fun _=>True)) x.aW/\((Sl.wf av.wf) x.bh/\((Sl.wf Z7.wf) x.ay/\((Sl.wf Z9.wf) x.aJ/\((Sl.wf Z8.wf) x.aM/\(True)))))))
include hB in
theorem Im:∀N,cB Tryz.prog B N 45 ai.c ai.sz ai.wf:=l6.struct hB (Tryz.bt 45 _ rfl) rfl (fun b=>(cn.cons (n:=7) (o:=0) (o':=1) (Tryz.bt 3 _ rfl) rfl ((cZ.int hB (Tryz.bt 3 _ rfl) rfl) b) (cn.cons (n:=7) (o:=1) (o':=2) (Tryz.bt 9 _ rfl) rfl ((cZ.str hB (Tryz.bt 9 _ rfl) rfl) b) (cn.cons (n:=7) (o:=2) (o':=3) (Tryz.bt 42 _ rfl) rfl ((cZ.slice hB (Tryz.bt 42 _ rfl) rfl (Tryz.bt 9 _ rfl) rfl (by decide) (fun _=>rfl) (cZ.str hB (Tryz.bt 9 _ rfl) rfl)) b) (cn.cons (n:=7) (o:=3) (o':=4) (Tryz.bt 36 _ rfl) rfl ((cZ.slice hB (Tryz.bt 36 _ rfl) rfl (Tryz.bt 75 _ rfl) rfl (by decide) (fun _=>rfl) (tA hB)) b) (cn.cons (n:=7) (o:=4) (o':=5) (Tryz.bt 41 _ rfl) rfl ((cZ.slice hB (Tryz.bt 41 _ rfl) rfl (Tryz.bt 40 _ rfl) rfl (by decide) (fun _=>rfl) (Ik hB)) b) (cn.cons (n:=7) (o:=5) (o':=6) (Tryz.bt 43 _ rfl) rfl ((cZ.slice hB (Tryz.bt 43 _ rfl) rfl (Tryz.bt 65 _ rfl) rfl (by decide) (fun _=>rfl) (Il hB)) b) (cn.cons (n:=7) (o:=6) (o':=7) (Tryz.bt 38 _ rfl) rfl ((cZ.slice hB (Tryz.bt 38 _ rfl) rfl (Tryz.bt 63 _ rfl) rfl (by decide) (fun _=>rfl) (BT hB)) b) (cn.nil (n:=7)))))))))) (fun a=>(⟨a.1,a.2.1,a.2.2.1,a.2.2.2.1,a.2.2.2.2.1,a.2.2.2.2.2.1,a.2.2.2.2.2.2.1⟩:ai)) (fun _=>rfl) (fun _=>Nat.le_refl _) (fun _ h=>h)
noncomputable def aj.sz (x:aj):Nat:=(Sl.sz ai.sz) x.an+(0)
def aj.wf (x:aj):Prop:=(Sl.wf ai.wf) x.an/\(True)
include hB in
theorem Io:∀N,cB Tryz.prog B N 24 aj.c aj.sz aj.wf:=l6.struct hB (Tryz.bt 24 _ rfl) rfl (fun b=>(cn.cons (n:=1) (o:=0) (o':=1) (Tryz.bt 22 _ rfl) rfl ((cZ.slice hB (Tryz.bt 22 _ rfl) rfl (Tryz.bt 45 _ rfl) rfl (by decide) (fun _=>rfl) (Im hB)) b) (cn.nil (n:=1)))) (fun a=>(⟨a.1⟩:aj)) (fun _=>rfl) (fun _=>Nat.le_refl _) (fun _ h=>h)
end
theorem ag.bl (x:ag):x.sz=0+1+1+Bs.sz x.bw+(Sl.sz ag.sz) x.aN+(Sl.sz Bs.sz) x.a_:=by
 rw [ag.BP]; try dsimp only
 omega
theorem ag.pos (x:ag):1<=x.sz:=by
 rw [ag.bl]; have:=Bs.fO x.bw; omega
theorem ag.Ip {x:ag}(h:x.wf):i64 x.ar:=((ag.pg x).1 h).1
theorem ag.BW {x:ag}(h:x.wf):i64 x.bx:=((ag.pg x).1 h).2.1
theorem ag.tB {x:ag}(h:x.wf):(Sl.wf ag.wf) x.aN:=((ag.pg x).1 h).2.2.2.1
theorem ag.v8 {x:ag}(h:x.wf):(Sl.wf (fun _=>True)) x.a_:=((ag.pg x).1 h).2.2.2.2.1
theorem bz.bl (x:bz):x.sz=0+Bs.sz x.aa+ag.sz x.eW:=by
 unfold bz.sz; try dsimp only
 omega
theorem bz.pos (x:bz):1<=x.sz:=by
 rw [bz.bl]; have:=Bs.fO x.aa; omega
theorem bz.BY {x:bz}(h:x.wf):ag.wf x.eW:=h.2.1
theorem av.bl (x:av):x.sz=0+Bs.sz x.aa+(Sl.sz bz.sz) x.aF:=by
 unfold av.sz; try dsimp only
 omega
theorem av.pos (x:av):1<=x.sz:=by
 rw [av.bl]; have:=Bs.fO x.aa; omega
theorem av.nN {x:av}(h:x.wf):(Sl.wf bz.wf) x.aF:=h.2.1
theorem aG.bl (x:aG):x.sz=0+Bs.sz x.aa+(Sl.sz (fun _=>1)) x.aK:=by
 unfold aG.sz; try dsimp only
 omega
theorem aG.v_ {x:aG}(h:x.wf):(Sl.wf i64) x.aK:=h.2.1
theorem Z8.bl (x:Z8):x.sz=0+Bs.sz x.aa+aG.sz x.aA+1+ag.sz x.dD+(Sl.sz av.sz) x.bh:=by
 unfold Z8.sz; try dsimp only
 omega
theorem Z8.pos (x:Z8):1<=x.sz:=by
 rw [Z8.bl]; have:=Bs.fO x.aa; omega
theorem Z8.tC {x:Z8}(h:x.wf):aG.wf x.aA:=h.2.1
theorem Z8.BZ {x:Z8}(h:x.wf):ag.wf x.dD:=h.2.2.2.1
theorem Z8.fP {x:Z8}(h:x.wf):(Sl.wf av.wf) x.bh:=h.2.2.2.2.1
theorem Z7.bl (x:Z7):x.sz=0+Bs.sz x.aa+(Sl.sz Z8.sz) x.aF+aG.sz x.aA+(Sl.sz av.sz) x.bh:=by
 unfold Z7.sz; try dsimp only
 omega
theorem Z7.pos (x:Z7):1<=x.sz:=by
 rw [Z7.bl]; have:=Bs.fO x.aa; omega
theorem Z7.nN {x:Z7}(h:x.wf):(Sl.wf Z8.wf) x.aF:=h.2.1
theorem Z7.tC {x:Z7}(h:x.wf):aG.wf x.aA:=h.2.2.1
theorem Z7.fP {x:Z7}(h:x.wf):(Sl.wf av.wf) x.bh:=h.2.2.2.1
theorem Z9.bl (x:Z9):x.sz=0+Bs.sz x.aa+(Sl.sz av.sz) x.bh:=by
 unfold Z9.sz; try dsimp only
 omega
theorem Z9.pos (x:Z9):1<=x.sz:=by
 rw [Z9.bl]; have:=Bs.fO x.aa; omega
theorem Z9.fP {x:Z9}(h:x.wf):(Sl.wf av.wf) x.bh:=h.2.1
theorem ai.bl (x:ai):x.sz=0+1+Bs.sz x.aa+(Sl.sz Bs.sz) x.aW+(Sl.sz av.sz) x.bh+(Sl.sz Z7.sz) x.ay+(Sl.sz Z9.sz) x.aJ+(Sl.sz Z8.sz) x.aM:=by
 unfold ai.sz; try dsimp only
 omega
theorem ai.pos (x:ai):1<=x.sz:=by
 rw [ai.bl]; have:=Bs.fO x.aa; omega
theorem ai.Iq {x:ai}(h:x.wf):(Sl.wf (fun _=>True)) x.aW:=h.2.2.1
theorem ai.fP {x:ai}(h:x.wf):(Sl.wf av.wf) x.bh:=h.2.2.2.1
theorem ai.tD {x:ai}(h:x.wf):(Sl.wf Z7.wf) x.ay:=h.2.2.2.2.1
theorem ai.we {x:ai}(h:x.wf):(Sl.wf Z9.wf) x.aJ:=h.2.2.2.2.2.1
theorem ai.wi {x:ai}(h:x.wf):(Sl.wf Z8.wf) x.aM:=h.2.2.2.2.2.2.1
theorem aj.bl (x:aj):x.sz=0+(Sl.sz ai.sz) x.an:=by
 unfold aj.sz; try dsimp only
 omega
theorem aj.tE {x:aj}(h:x.wf):(Sl.wf ai.wf) x.an:=h.1
end Go.Proofs
namespace Go.Proofs
open Go Go.Ab
open aO aq ah aY eG
variable {az:bC}
def iw (b:Bs):List ai->Unit ⊕ ((ai×Bool))
 | []=>Sum.inl ()
 | f::g=>on (f) fun i=>bif ((i.aa==b)) then(on (f) fun j=>Sum.inr (j,true)) else(iw b (g) )
def cU (i:aj) (b:Bs):(ai×Bool):=on (iw b i.an.l ) fun f=>match f with|Sum.inl _=>(on (()) fun _=>((ai.mk (0:Int) ([]:Bs) (Sl.nil:Sl Bs) (Sl.nil:Sl av) (Sl.nil:Sl Z7) (Sl.nil:Sl Z9) (Sl.nil:Sl Z8)),false))|Sum.inr g=>(g)
def ph (f:aj) (b:Bs):Option (ai×Bool):=some (cU f b)
theorem iy (a0:aj) (b:Bs):ph a0 b=some (cU a0 b):=rfl
theorem iz {g:aj}{i:Bs}{r:ai×Bool}(b:ph g i=some r) (H:ak) :AC Tryz.prog 24 [.agg (aj.c g),.d (.str i)] H fun v h'=>v=.dz [.agg (ai.c r.1),.d (.bool r.2)]/\h'=H:=by
 unfold ph cU at b;refine AC.oW 28 [.cell 4 45,.tmp 5] Tryz.call24 Tryz.func24 ?_;refine af (S BX ?_);refine Sl ?_;refine S As (nil ?_);refine ez (TA 4 kN) (fun(z:ai)=>[]) (fun z=>[ai.c z]) (fun z=>H) (fun z=>some (((ai.mk (0:Int) ([]:Bs) (Sl.nil:Sl Bs) (Sl.nil:Sl av) (Sl.nil:Sl Z7) (Sl.nil:Sl Z9) (Sl.nil:Sl Z8)),false))=some r) ?_ ?_
 ·intro I w;refine af (S As (nil ?_));refine block ?_;obtain⟨o,p,b⟩:=dU b;refine fK (TA 1 (TA 2 (TA 4 kN))) (fun(z:Nat×ai)=>[(6,.a (.d (.int .i64 ((z.1:Nat):Int))))]) (fun z=>[ai.c z.2]) (fun z=>H) (fun z=>g.an.l.length-z.1) (fun z=>o (iw i (g.an.l.drop z.1) )=some r) (0,ai.zero) b wA ?_;rintro ⟨j,q⟩ b J x;try dsimp only at b
  refine ax fun y t=>?_;refine af (S Mv (S Fv (S Ld ?_)));refine sLen (f:=ai.c) (s:=g.an) (TK rfl) rfl rfl rfl rfl fun K=>?_;refine S BI (nil ?_);refine ah.bK (fun l=>o (iw i l )=some r) b rfl (fun L k m b=>?_) (fun m b=>?_)
  ·rw [iw] at b;try dsimp only at m
   have M:=oD m;refine sk t ?_;clear t y;refine ax fun B u=>?_;refine block ?_;refine af (S Fv (S Ld (S Mv ?_)));obtain⟨N,C,b⟩:=vP k b;refine S (ix ai.c j C) (S Fv (S Ld (S Mv (S BS (nil ?_)))));refine cP b (fun E b=>?_) (fun E b=>?_)
   ·refine af (S Fv (S Ld (S Mv ?_)));obtain⟨O,F,b⟩:=vP k b;refine S (ix ai.c j F) (S Ld ?_);refine Sf ?_;refine S As (nil ?_);refine ah.ret ?_;repeat (first|refine bE ?_|refine bF ?_)
    have b:=ku p b;obtain rfl:=oJ b;refine bn.bG H rfl ⟨rfl,rfl⟩ ?_;exact(fun _ _ h=>h)
   refine sk u ?_;clear u B;refine region ?_;refine S Mv ?_;refine SI ?_;refine S As (nil ?_);exact x _ ((j+1),q) wA b (dl k)
  rw [iw] at b;have b:=ku p b;try dsimp only at b
  refine ah.exit ?_;obtain⟨P,G,b⟩:=dU b;have b:=ku G b;exact w _ q wA b
 rintro Q b;try dsimp only at b
 refine af (S BU ?_);refine Sf ?_;refine S As (nil ?_);exact rt b
def dh (b:Bs):Bool:=(((((b==([73,110,116]:Bs)))||((b==([83,116,114,105,110,103]:Bs))))||((b==([66,111,111,108,101,97,110]:Bs))))||((b==([73,68]:Bs))))
def tF (b:Bs):Option Bool:=some (dh b)
theorem pn (a0:Bs):tF a0=some (dh a0):=rfl
theorem pq {f:Bs}{r:Bool}(b:tF f=some r) (H:ak) :AC Tryz.prog 81 [.d (.str f)] H fun v h'=>v=.a (.d (.bool r))/\h'=H:=by
 unfold tF dh at b;refine AC.oW 17 [.tmp 2] Tryz.call81 Tryz.func81 ?_;refine af (S As (nil ?_));refine af (S Mv (S BS (S Mv (G0 Mv ?_))));refine G1 6 rfl BS ?_;refine S PO (S Mv (G0 Mv ?_));refine G1 10 rfl BS ?_;refine S PO (S Mv (G0 Mv ?_));refine G1 14 rfl BS ?_;refine S PO (S As (nil ?_));exact rt b
def tG (b:Int):Bool:=((((decide ((65:Int)<=b))&&(decide (b<=(90:Int))))||((decide ((97:Int)<=b))&&(decide (b<=(122:Int)))))||(decide (b=(95:Int))))
def wj (b:Int):Option Bool:=some (tG b)
theorem Ir (a0:Int):wj a0=some (tG a0):=rfl
theorem Is {f:Int}{r:Bool}(b:wj f=some r) (H:ak) :AC Tryz.prog 94 [.d (.int .u8 f)] H fun v h'=>v=.a (.d (.bool r))/\h'=H:=by
 unfold wj tG at b;refine AC.oW 21 [.tmp 2] Tryz.call94 Tryz.func94 ?_;refine af (S As (nil ?_));refine af (S Mv (S BI (S Mv (G0 Mv ?_))));refine G1 6 rfl BI ?_;refine S PA (S Mv (G0 Mv ?_));refine G1 10 rfl BI ?_;refine G1 11 rfl Mv ?_;refine G0 Mv ?_;refine G1 13 rfl BI ?_;refine gC rfl rfl (fun hC=>aL (k:=12) rfl (gR rfl rfl rfl)) rfl ?_;refine S PO (S Mv (G0 Mv ?_));refine G1 18 rfl BI ?_
 refine S PO (S As (nil ?_));exact rt b
def tH (b:Int):Bool:=((decide ((48:Int)<=b))&&(decide (b<=(57:Int))))
def wk (b:Int):Option Bool:=some (tH b)
theorem It (a0:Int):wk a0=some (tH a0):=rfl
theorem Iu {f:Int}{r:Bool}(b:wk f=some r) (H:ak) :AC Tryz.prog 95 [.d (.int .u8 f)] H fun v h'=>v=.a (.d (.bool r))/\h'=H:=by
 unfold wk tH at b;refine AC.oW 9 [.tmp 2] Tryz.call95 Tryz.func95 ?_;refine af (S As (nil ?_));refine af (S Mv (S BI (S Mv (G0 Mv ?_))));refine G1 6 rfl BI ?_;refine S PA (S As (nil ?_));exact rt b
def pu :List UInt8->Nat->Unit ⊕ Bool
 | [],b=>Sum.inl ()
 | g::i,b=>on (g) fun j=>on (tG ((j.toNat:Nat):Int)) fun f=>on (bif ((!f)&&!(decide (((b:Nat):Int)=(0:Int)))) then g else(0:UInt8)) fun k=>on (bif ((!f)&&!(decide (((b:Nat):Int)=(0:Int)))) then tH ((k.toNat:Nat):Int) else false) fun l=>bif ((!f)&&((decide (((b:Nat):Int)=(0:Int)))||(!l))) then(Sum.inr false) else(pu  (i) (b+1) )
def ff (b:Bs):Bool:=bif ((decide (((b.length:Nat):Int)<(1:Int)))||(decide ((64:Int)<((b.length:Nat):Int)))) then(false) else(on (pu  b 0 ) fun f=>match f with|Sum.inl _=>(on (()) fun _=>true)|Sum.inr g=>(g))
def q6 (b:Bs):Option Bool:=some (ff b)
theorem iA (a0:Bs):q6 a0=some (ff a0):=rfl
theorem iB {g:Bs}{r:Bool}(b:q6 g=some r) (H:ak) :AC Tryz.prog 56 [.d (.str g)] H fun v h'=>v=.a (.d (.bool r))/\h'=H:=by
 unfold q6 ff at b;refine AC.oW 34 [.tmp 2] Tryz.call56 Tryz.func56 ?_;refine af (S As (nil ?_));refine ax fun t m=>?_;refine af (S Mv ?_);refine o8 (TK rfl) rfl rfl rfl rfl fun K=>?_;refine S BI (S Mv (G0 Mv ?_));refine gC rfl rfl (fun hC=>aL (k:=8) rfl (sQ (TK rfl) rfl rfl rfl)) rfl ?_;refine G1 9 rfl BI ?_;refine S PO (nil ?_);refine cP b (fun u b=>?_) (fun u b=>?_)
 ·refine af (S As (nil ?_));exact rt b
 refine sk m ?_;clear m t;refine aP kN (fun(z:Unit)=>[]) (fun z=>H) (fun z=>some (true)=some r) ?_ ?_
 ·intro L w;refine af (S As (nil ?_));refine block ?_;obtain⟨o,p,b⟩:=dU b;refine bp (TA 0 kN) (fun(z:Nat)=>[(3,.a (.d (.int .i64 ((z:Nat):Int))))]) (fun z=>H) (fun z=>g.length-z) (fun z=>o (pu  (g.drop z) z )=some r) 0 b wA ?_;rintro f b M x;try dsimp only at b
  refine ax fun y q=>?_;refine af (S Mv (S Mv ?_));refine o8 (TK rfl) rfl rfl rfl rfl fun N=>?_;refine S BI (nil ?_);refine ah.bK (fun l=>o (pu  l f )=some r) b rfl (fun O i j b=>?_) (fun j b=>?_)
  ·rw [pu] at b;try dsimp only at j
   have P:=oD j;refine sk q ?_;clear q y;refine ax fun B s=>?_;refine block ?_;refine af (S Mv (S Mv ?_));obtain⟨Q,C,b⟩:=vP i b;refine s0 (nJ (n:=f) (TK rfl) rfl rfl rfl C) rfl ?_;obtain⟨R,E,b⟩:=vP (Ir _) b;refine Sc rfl rfl (Is E) ?_;refine S NB (S Mv (G0 Mv ?_));refine G1 24 rfl BI ?_;refine G1 25 rfl Mv ?_;refine G0 Mv (G0 Mv ?_)
   obtain⟨U,F,b⟩:=kG (fun _=>i) b;refine gC rfl rfl (fun hC=>aL (k:=27) rfl (aL (k:=28) rfl (nJ (n:=f) (TK rfl) rfl rfl rfl (F hC)))) rfl ?_;obtain⟨W,G,b⟩:=kG (fun _=>(It _)) b;refine c6 29 rfl rfl rfl rfl rfl (fun hC=>Iu (G hC)) ?_;refine G1 30 rfl NB ?_;refine gC rfl rfl (fun hC=>aL (k:=26) rfl (o9 rfl rfl rfl)) rfl ?_;refine S PA (nil ?_)
   refine cP b (fun I b=>?_) (fun I b=>?_)
   ·refine af (S As (nil ?_));refine ah.ret ?_;repeat (first|refine bE ?_|refine bF ?_)
    have b:=ku p b;obtain rfl:=oJ b;refine bn.bG H rfl ⟨rfl,rfl⟩ ?_;exact(fun _ _ h=>h)
   refine sk s ?_;clear s B;refine region ?_;refine S Mv ?_;refine SI ?_;refine S As (nil ?_);exact x _ (f+1) wA b (dl i)
  rw [pu] at b;have b:=ku p b;try dsimp only at b
  refine ah.exit ?_;obtain⟨X,J,b⟩:=dU b;have b:=ku J b;exact w _ () wA b
 rintro _ b;try dsimp only at b
 refine af (S As (nil ?_));exact rt b
def nO (b:Bs):Option Bool:=aU ((decide ((2:Int)<=((b.length:Nat):Int)))) (b[0]?) (0:UInt8) fun f=>aU (((decide ((2:Int)<=((b.length:Nat):Int)))&&(decide (((f.toNat:Nat):Int)=(95:Int))))) (b[1]?) (0:UInt8) fun g=>some (((decide ((2:Int)<=((b.length:Nat):Int)))&&(decide (((f.toNat:Nat):Int)=(95:Int))))&&(decide (((g.toNat:Nat):Int)=(95:Int))))
def wm (b:Bs):Option Bool:=nO b
theorem Iv (a0:Bs):wm a0=nO a0:=rfl
theorem Iw {f:Bs}{r:Bool}(b:wm f=some r) (H:ak) :AC Tryz.prog 153 [.d (.str f)] H fun v h'=>v=.a (.d (.bool r))/\h'=H:=by
 unfold wm nO at b;refine AC.oW 16 [.tmp 2] Tryz.call153 Tryz.func153 ?_;refine af (S As (nil ?_));refine af (S Mv ?_);refine o8 (TK rfl) rfl rfl rfl rfl fun j=>?_;refine S BI (S Mv (G0 Mv ?_));obtain⟨l,g,b⟩:=dR rfl b;refine gC rfl rfl (fun hC=>aL (k:=7) rfl (nJ (n:=0) (TK rfl) rfl rfl rfl (g hC))) rfl ?_;refine G1 8 rfl BI ?_;refine S PA (S Mv (G0 Mv ?_));obtain⟨m,i,b⟩:=dR rfl b
 refine gC rfl rfl (fun hC=>aL (k:=12) rfl (nJ (n:=1) (TK rfl) rfl rfl rfl (i hC))) rfl ?_;refine G1 13 rfl BI ?_;refine S PA (S As (nil ?_));exact rt b
def pw (f:Bs):Option Bool:=on (ff f) fun b=>aU (b) (nO f) false fun g=>some (b&&(!g))
def wo (b:Bs):Option Bool:=pw b
theorem B0 (a0:Bs):wo a0=pw a0:=rfl
theorem B1 {f:Bs}{r:Bool}(b:wo f=some r) (H:ak) :AC Tryz.prog 120 [.d (.str f)] H fun v h'=>v=.a (.d (.bool r))/\h'=H:=by
 unfold wo pw at b;refine AC.oW 10 [.tmp 2] Tryz.call120 Tryz.func120 ?_;refine af (S As (nil ?_));refine af (S Mv ?_);obtain⟨j,g,b⟩:=vT (iA _) b;refine Sc rfl rfl (iB g) ?_;refine S Mv (G0 Mv ?_);obtain⟨k,i,b⟩:=dR (Iv _) b;refine c6 6 rfl rfl rfl rfl rfl (fun hC=>Iw (i hC)) ?_;refine G1 7 rfl NB ?_;refine S PA (S As (nil ?_));exact rt b
def ji (m:Bs) (b:Bool) (o:Bool) (g:Bs):Option (Sl Z6):=aU (!b) (pw m) false fun i=>Option.bind (bif (b||(!i)) then((aQ 24 (Sl.nil:Sl Z6) (⟨false,[(Z6.mk (6:Int) g)]⟩:Sl Z6)).bind fun j=>some j) else(some (Sl.nil:Sl Z6))) fun f=>Option.bind (bif o then((aQ 24 f (⟨false,[(Z6.mk (7:Int) g)]⟩:Sl Z6)).bind fun k=>some k) else(some f)) fun l=>some l
def px (f:Bs) (b:Bool) (g:Bool) (i:Bs):Option (Sl Z6):=ji f b g i
theorem tI (a0:Bs) (b:Bool) (a2:Bool) (a3:Bs):px a0 b a2 a3=ji a0 b a2 a3:=rfl
theorem wq {u:Bs}{k i:Bool}{j:Bs}{r:Sl Z6}(b:px u k i j=some r) (H:ak) :AC Tryz.prog 82 [.d (.str u),.d (.bool k),.d (.bool i),.d (.str j)] H fun v h'=>v=.a (.d (Sl.d 2 Z6.c none r))/\h'=H:=by
 unfold px ji at b;refine AC.oW 28 [.tmp 8] Tryz.call82 Tryz.func82 ?_;refine ah.tok 2 fun f m=>?_;refine af ?_;refine s0 (dc (k':=2) rfl) rfl ?_;refine nil ?_;refine af (S As (nil ?_));refine ah.eH 9 2 f rfl aB ?_;refine aP (TA 2 (TA 3 kN)) (fun(z:(Sl Z6))=>[(9,.a (.d (Sl.d 2 Z6.c (some f) z)))]) (fun z=>(H.set f (some (.tok 2 z.l.length)))) (fun z=>(Option.bind (bif i then((aQ 24 z (⟨false,[(Z6.mk (7:Int) j)]⟩:Sl Z6)).bind fun g=>some g) else(some z)) fun o=>some o)=some r) ?_ ?_
 ·intro I p;refine af (S Mv (S Mv (G0 Mv ?_)));obtain⟨J,w,b⟩:=dR (B0 _) b;refine c6 12 rfl rfl rfl rfl rfl (fun hC=>B1 (w hC)) ?_;refine G1 13 rfl NB ?_;refine S PO (nil ?_);obtain⟨K,q,b⟩:=bY b;refine cO b (fun x b=>?_) (fun x b=>?_)
  ·refine region ?_;refine S Mv (S Mv (S BU (S BV ?_)));obtain⟨s,y,b⟩:=qO rfl b;refine SH (am Z6.c (TK rfl) rfl (TK rfl) (TK rfl) y) ?_;refine hq (H.set f (some (.tok 2 s.l.length))) ?_;refine S As (nil ?_);have b:=ku q b;exact p _ s wA b
  refine ah.skip ?_;have b:=ku q b;exact p _ (Sl.nil:Sl Z6) wA b
 rintro B b;try dsimp only at b
 obtain⟨C,E,b⟩:=bY b;refine aP kN (fun(z:(Sl Z6))=>[(9,.a (.d (Sl.d 2 Z6.c (some f) z)))]) (fun z=>(H.set f (some (.tok 2 z.l.length)))) (fun z=>C z=some r) ?_ ?_
 ·intro L t;refine af (S Mv (nil ?_));refine cO b (fun F b=>?_) (fun F b=>?_)
  ·refine region ?_;refine S Mv (S Mv (S BU (S BV ?_)));obtain⟨g,G,b⟩:=qO rfl b;refine SH (am Z6.c (TK rfl) rfl (TK rfl) (TK rfl) G) ?_;refine hq (H.set f (some (.tok 2 g.l.length))) ?_;refine S As (nil ?_);exact t _ g wA b
  refine ah.skip ?_;exact t _ B wA b
 rintro o b;try dsimp only at b
 have b:=ku E b;refine af (S Mv (S As (nil ?_)));refine ah.dm 8 rfl ?_;refine ah.ret ?_;repeat (first|refine bE ?_|refine bF ?_)
 obtain rfl:=oJ b;refine bn.bG H rfl ⟨rfl,rfl⟩ ?_
 first|exact ak.bS m|(simp only [ak.set_set]; exact ak.bS m)
theorem Ix {t:Bs}{k i:Bool}{j:Bs}{r:Sl Z6}(b:px t k i j=some r) (H:ak){f:Nat}(G:H f=some (.tok 2 0)):AC Tryz.prog 82 [.d (.str t),.d (.bool k),.d (.bool i),.d (.str j)] H fun v h'=>v=.a (.d (Sl.d 2 Z6.c (some f) r))/\h'=H.set f (some (.tok 2 r.l.length)):=by
 unfold px ji at b;refine AC.oW 28 [.tmp 8] Tryz.call82 Tryz.func82 ?_;refine ah.dQ (h':=(H.set f (some (.tok 2 0)))) (by funext n_; simp only [ak.set]; (repeat' split)<;>simp_all) ?_;refine af (S As (nil ?_));refine af (S As (nil ?_));refine ah.eH 9 2 f rfl aB ?_;refine aP (TA 2 (TA 3 kN)) (fun(z:(Sl Z6))=>[(9,.a (.d (Sl.d 2 Z6.c (some f) z)))]) (fun z=>(H.set f (some (.tok 2 z.l.length)))) (fun z=>(Option.bind (bif i then((aQ 24 z (⟨false,[(Z6.mk (7:Int) j)]⟩:Sl Z6)).bind fun g=>some g) else(some z)) fun m=>some m)=some r) ?_ ?_
 ·intro I o;refine af (S Mv (S Mv (G0 Mv ?_)));obtain⟨J,u,b⟩:=dR (B0 _) b;refine c6 12 rfl rfl rfl rfl rfl (fun hC=>B1 (u hC)) ?_;refine G1 13 rfl NB ?_;refine S PO (nil ?_);obtain⟨K,p,b⟩:=bY b;refine cO b (fun w b=>?_) (fun w b=>?_)
  ·refine region ?_;refine S Mv (S Mv (S BU (S BV ?_)));obtain⟨q,x,b⟩:=qO rfl b;refine SH (am Z6.c (TK rfl) rfl (TK rfl) (TK rfl) x) ?_;refine hq (H.set f (some (.tok 2 q.l.length))) ?_;refine S As (nil ?_);have b:=ku p b;exact o _ q wA b
  refine ah.skip ?_;have b:=ku p b;exact o _ (Sl.nil:Sl Z6) wA b
 rintro y b;try dsimp only at b
 obtain⟨B,C,b⟩:=bY b;refine aP kN (fun(z:(Sl Z6))=>[(9,.a (.d (Sl.d 2 Z6.c (some f) z)))]) (fun z=>(H.set f (some (.tok 2 z.l.length)))) (fun z=>B z=some r) ?_ ?_
 ·intro L s;refine af (S Mv (nil ?_));refine cO b (fun E b=>?_) (fun E b=>?_)
  ·refine region ?_;refine S Mv (S Mv (S BU (S BV ?_)));obtain⟨g,F,b⟩:=qO rfl b;refine SH (am Z6.c (TK rfl) rfl (TK rfl) (TK rfl) F) ?_;refine hq (H.set f (some (.tok 2 g.l.length))) ?_;refine S As (nil ?_);exact s _ g wA b
  refine ah.skip ?_;exact s _ y wA b
 rintro m b;try dsimp only at b
 have b:=ku C b;refine af (S Mv (S As (nil ?_)));exact rt b
def tJ (b:ai):Bool:=on (bif (decide (b.ar=(1:Int))) then((decide (b.ar=(1:Int)))) else((decide (b.ar=(2:Int))))) fun f=>bif f then((decide (((b.ay.l.length:Nat):Int)=(0:Int)))) else(on (bif (decide (b.ar=(3:Int))) then((decide (b.ar=(3:Int)))) else((decide (b.ar=(4:Int))))) fun g=>bif g then((decide (((b.aJ.l.length:Nat):Int)=(0:Int)))) else(bif (decide (b.ar=(5:Int))) then((decide (((b.aM.l.length:Nat):Int)=(0:Int)))) else(on (()) fun _=>false)))
def tK (b:ai):Option Bool:=some (tJ b)
theorem Iy (a0:ai):tK a0=some (tJ a0):=rfl
theorem Iz {g:ai}{r:Bool}(b:tK g=some r) (H:ak) :AC Tryz.prog 83 [.agg (ai.c g)] H fun v h'=>v=.a (.d (.bool r))/\h'=H:=by
 unfold tK tJ at b;refine AC.oW 25 [.tmp 2] Tryz.call83 Tryz.func83 ?_;refine af (S BX (S As (nil ?_)));refine aP kN (fun(z:Unit)=>[]) (fun z=>H) (fun z=>some (false)=some r) ?_ ?_
 ·intro B k;refine af (S Fv (S Ld (nil ?_)));refine block ?_;obtain⟨l,m,b⟩:=dU b;refine aP (TA 1 (TA 4 kN)) (fun(z:Bool)=>[(5,.a (.d (.bool z)))]) (fun z=>H) (fun z=>l z=some r) ?_ ?_
  ·intro C i;refine af (S BI (S As (nil ?_)));refine cP b (fun o b=>?_) (fun o b=>?_)
   ·refine ah.skip ?_;exact i _ (decide (g.ar=(1:Int))) wA b
   refine region ?_;refine S BI (S As (nil ?_));exact i _ (decide (g.ar=(2:Int))) wA b
  rintro E b;try dsimp only at b
  have b:=ku m b;refine cP b (fun p b=>?_) (fun p b=>?_)
  ·refine af (S Fv (S Ld ?_));refine sLen (f:=Z7.c) (s:=g.ay) (TK rfl) rfl rfl rfl rfl fun F=>?_;refine S BI (S As (nil ?_));exact rt b
  obtain⟨q,t,b⟩:=dU b;refine aP (TA 1 (TA 4 kN)) (fun(z:Bool)=>[(12,.a (.d (.bool z)))]) (fun z=>H) (fun z=>q z=some r) ?_ ?_
  ·intro G j;refine af (S BI (S As (nil ?_)));refine cP b (fun u b=>?_) (fun u b=>?_)
   ·refine ah.skip ?_;exact j _ (decide (g.ar=(3:Int))) wA b
   refine region ?_;refine S BI (S As (nil ?_));exact j _ (decide (g.ar=(4:Int))) wA b
  rintro I b;try dsimp only at b
  have b:=ku t b;refine cP b (fun w b=>?_) (fun w b=>?_)
  ·refine af (S Fv (S Ld ?_));refine sLen (f:=Z9.c) (s:=g.aJ) (TK rfl) rfl rfl rfl rfl fun J=>?_;refine S BI (S As (nil ?_));exact rt b
  refine af (S BI (S As (nil ?_)));refine cP b (fun x b=>?_) (fun x b=>?_)
  ·refine af (S Fv (S Ld ?_));refine sLen (f:=Z8.c) (s:=g.aM) (TK rfl) rfl rfl rfl rfl fun K=>?_;refine S BI (S As (nil ?_));exact rt b
  refine ah.skip ?_;obtain⟨L,y,b⟩:=dU b;have b:=ku y b;exact k _ () wA b
 rintro _ b;try dsimp only at b
 refine af (S As (nil ?_));exact rt b
def kH (b:Bs):List Bs->Unit ⊕ Bool
 | []=>Sum.inl ()
 | f::g=>on (f) fun i=>bif ((i==b)) then(Sum.inr true) else(kH b (g) )
def py (i:(Sl Bs)) (b:Bs):Bool:=on (kH b i.l ) fun f=>match f with|Sum.inl _=>(on (()) fun _=>false)|Sum.inr g=>(g)
def tL (f:(Sl Bs)) (b:Bs):Option Bool:=some (py f b)
theorem B2 (a0:(Sl Bs)) (b:Bs):tL a0 b=some (py a0 b):=rfl
theorem B3 {g:Sl Bs}{i:Bs}{w0:Option Nat}{r:Bool}(b:tL g i=some r) (H:ak) :AC Tryz.prog 122 [.d (Sl.d 1 aI w0 g),.d (.str i)] H fun v h'=>v=.a (.d (.bool r))/\h'=H:=by
 unfold tL py at b;refine AC.oW 18 [.tmp 4] Tryz.call122 Tryz.func122 ?_;refine af (S As (nil ?_));refine aP kN (fun(z:Unit)=>[]) (fun z=>H) (fun z=>some (false)=some r) ?_ ?_
 ·intro F u;refine af (S As (nil ?_));refine block ?_;obtain⟨k,m,b⟩:=dU b;refine bp (TA 0 (TA 1 kN)) (fun(z:Nat)=>[(5,.a (.d (.int .i64 ((z:Nat):Int))))]) (fun z=>H) (fun z=>g.l.length-z) (fun z=>k (kH i (g.l.drop z) )=some r) 0 b wA ?_;rintro o b G w;try dsimp only at b
  refine ax fun x p=>?_;refine af (S Mv (S Mv ?_));refine sLen (f:=aI) (s:=g) (TK rfl) rfl rfl rfl rfl fun I=>?_;refine S BI (nil ?_);refine ah.bK (fun l=>k (kH i l )=some r) b rfl (fun J q j b=>?_) (fun j b=>?_)
  ·rw [kH] at b;try dsimp only at j
   have K:=oD j;refine sk p ?_;clear p x;refine ax fun y t=>?_;refine block ?_;refine af (S Mv (S Mv ?_));obtain⟨L,B,b⟩:=vP q b;refine S (ix aI o B) (S Ld (S Mv (S BS (nil ?_))));refine cP b (fun C b=>?_) (fun C b=>?_)
   ·refine af (S As (nil ?_));refine ah.ret ?_;repeat (first|refine bE ?_|refine bF ?_)
    have b:=ku m b;obtain rfl:=oJ b;refine bn.bG H rfl ⟨rfl,rfl⟩ ?_;exact(fun _ _ h=>h)
   refine sk t ?_;clear t y;refine region ?_;refine S Mv ?_;refine SI ?_;refine S As (nil ?_);exact w _ (o+1) wA b (dl q)
  rw [kH] at b;have b:=ku m b;try dsimp only at b
  refine ah.exit ?_;obtain⟨M,E,b⟩:=dU b;have b:=ku E b;exact u _ () wA b
 rintro _ b;try dsimp only at b
 refine af (S As (nil ?_));exact rt b
def pz (b:aG):Option Bool:=aU ((decide (((b.aK.l.length:Nat):Int)=(1:Int)))) (b.aK.l[0]?) (0:Int) fun f=>some ((decide (((b.aK.l.length:Nat):Int)=(1:Int)))&&(decide (f=(1:Int))))
def wu (b:aG):Option Bool:=pz b
theorem IA (a0:aG):wu a0=pz a0:=rfl
theorem IB {g:aG}{r:Bool}(b:wu g=some r) (H:ak) :AC Tryz.prog 154 [.agg (aG.c g)] H fun v h'=>v=.a (.d (.bool r))/\h'=H:=by
 unfold wu pz at b;refine AC.oW 14 [.tmp 2] Tryz.call154 Tryz.func154 ?_;refine af (S BX (S As (nil ?_)));refine af (S Fv (S Ld ?_));refine sLen (f:=(bJ .i64)) (s:=g.aK) (TK rfl) rfl rfl rfl rfl fun j=>?_;refine S BI (S Mv (G0 Fv ?_));refine G1 8 rfl Ld ?_;obtain⟨l,i,b⟩:=dR rfl b;refine gC rfl rfl (fun hC=>aL (k:=9) rfl (dI (f:=(bJ .i64)) (n:=0) (TK rfl) rfl (TK rfl) rfl rfl rfl (i hC))) rfl ?_
 refine G1 10 rfl Ld ?_;refine G1 11 rfl BI ?_;refine S PA (S As (nil ?_));exact rt b
def jR (k:aj) (i:Bs):List Z8->(Sl Bs)->Option ((Sl Bs))
 | [],f=>some f
 | l::m,f=>on (l) fun b=>on (cU k b.aA.aa) fun g=>(pz b.aA).bind fun j=>on (bif (j&&(((b.aA.aa==i))||(g.2&&(decide (g.1.ar=(5:Int)))))) then py f b.aA.aa else false) fun o=>Option.bind (bif ((j&&(((b.aA.aa==i))||(g.2&&(decide (g.1.ar=(5:Int))))))&&(!o)) then((aQ 16 f (⟨false,[b.aA.aa]⟩:Sl Bs)).bind fun p=>some p) else(some f)) fun q=>jR k i (m) q
def tM (i:aj) (b:ai) (j:Bs) (k:(Sl Bs)):Option (Sl Bs):=Option.bind (jR i j b.aM.l k) fun f=>on (f) fun g=>some g
def pE (f:aj) (b:ai) (g:Bs) (i:(Sl Bs)):Option (Sl Bs):=tM f b g i
theorem IC (a0:aj) (b:ai) (a2:Bs) (a3:(Sl Bs)):pE a0 b a2 a3=tM a0 b a2 a3:=rfl
theorem B4 {i:aj}{g:ai}{j:Bs}{m:Sl Bs}{g3:Nat}{r:Sl Bs}(b:pE i g j m=some r) (H:ak) (Q:H g3=some (.tok 1 m.l.length)):AC Tryz.prog 121 [.agg (aj.c i),.agg (ai.c g),.d (.str j),.d (Sl.d 1 aI (some g3) m)] H fun v h'=>v=.a (.d (Sl.d 1 aI (some g3) r))/\h'=(H.set g3 (some (.tok 1 r.l.length))):=by
 unfold pE tM at b;refine AC.oW 62 [.tmp 8] Tryz.call121 Tryz.func121 ?_;refine ah.dQ (h':=(H.set g3 (some (.tok 1 m.l.length)))) (by funext n_; simp only [ak.set]; (repeat' split)<;>simp_all) ?_;refine af (S BX (S BX (S As (nil ?_))));refine aP kN (fun(z:(Sl Bs))=>[(3,.a (.d (Sl.d 1 aI (some g3) z)))]) (fun z=>(H.set g3 (some (.tok 1 z.l.length)))) (fun z=>(some z)=some r) ?_ ?_
 ·intro R C;refine af (S As (nil ?_));refine block ?_;obtain⟨o,E,b⟩:=bY b;refine bp (TA 2 (TA 4 (TA 5 kN))) (fun(z:(Sl Bs)×Nat)=>[(3,.a (.d (Sl.d 1 aI (some g3) z.1))),(9,.a (.d (.int .i64 ((z.2:Nat):Int))))]) (fun z=>(H.set g3 (some (.tok 1 z.1.l.length)))) (fun z=>g.aM.l.length-z.2) (fun z=>Option.bind (jR i j (g.aM.l.drop z.2) z.1) o=some r) (m,0) b wA ?_
  rintro ⟨p,q⟩ b U F;try dsimp only at b
  refine ax fun G u=>?_;refine af (S Mv (S Fv (S Ld ?_)));refine sLen (f:=Z8.c) (s:=g.aM) (TK rfl) rfl rfl rfl rfl fun W=>?_;refine S BI (nil ?_);refine ah.bK (fun l=>Option.bind (jR i j l p) o=some r) b rfl (fun X w t b=>?_) (fun t b=>?_)
  ·rw [jR] at b;try dsimp only at t
   have Y:=oD t;refine sk u ?_;clear u G;refine aP (TA 2 (TA 4 (TA 5 (TA 9 kN)))) (fun(z:(Sl Bs))=>[(3,.a (.d (Sl.d 1 aI (some g3) z)))]) (fun z=>(H.set g3 (some (.tok 1 z.l.length)))) (fun z=>Option.bind (jR i j (g.aM.l.drop (q+1)) z) o=some r) ?_ ?_
   ·intro Z x;refine block ?_;refine af (S Fv (S Ld (S Mv ?_)));obtain⟨aa,I,b⟩:=vO w b;refine S (ix Z8.c q I) (S Fv (S Ld ?_));refine Sl ?_;refine Sf ?_;refine nil ?_;refine bA 10 _ rfl (KA 2 (KA 3 (KA 4 (KA 5 (KA 9 aY.nil))))) ?_;refine af (S Ld (S Fv (S Ld ?_)));obtain⟨ab,J,b⟩:=vO (iy _ _) b;refine Sc rfl rfl (iz J) ?_;refine S Mv (S EX (S EX ?_))
    refine Sl ?_;refine Sf ?_;refine S As (nil ?_);refine bA 11 _ rfl (KA 2 (KA 3 (KA 4 (KA 5 (KA 9 (KA 10 (KA 12 aY.nil))))))) ?_;refine af (S Ld ?_);obtain⟨ad,K,b⟩:=qO (IA _) b;refine Sc rfl rfl (IB K) ?_;refine S Mv (G0 Fv ?_);refine G1 36 rfl Ld ?_;refine G0 Mv ?_;refine G2 37 38 rfl rfl BS ?_;refine G1 39 rfl Mv ?_;refine G0 Mv ?_;refine G1 41 rfl Mv ?_;refine G0 Fv ?_
    refine G1 43 rfl Ld ?_;refine G1 44 rfl BI ?_;refine gC rfl rfl (fun hC=>aL (k:=42) rfl (gR rfl rfl rfl)) rfl ?_;refine gC rfl rfl (fun hC=>aL (k:=40) rfl (o9 rfl rfl rfl)) rfl ?_;refine S PA (S Mv (G0 Mv (G0 Fv ?_)));refine G1 51 rfl Ld ?_;obtain⟨ae,L,b⟩:=eB (fun _=>(B2 _ _)) b;refine fu 50 52 rfl rfl rfl rfl rfl rfl (fun hC=>B3 (L hC)) ?_;refine G1 53 rfl NB ?_
    refine S PA (nil ?_);obtain⟨ag,y,b⟩:=dZ b;refine cO b (fun M b=>?_) (fun M b=>?_)
    ·refine region ?_;refine S Mv (S Fv (S Ld (S BV ?_)));obtain⟨B,N,b⟩:=qO rfl b;refine SH (am aI (TK rfl) rfl (TK rfl) (TK rfl) N) ?_;refine hq (H.set g3 (some (.tok 1 B.l.length))) ?_;refine S As (nil ?_);have b:=ku y b;exact x _ B wA b
    refine ah.skip ?_;have b:=ku y b;exact x _ p wA b
   rintro O b;try dsimp only at b
   refine region ?_;refine S Mv ?_;refine SI ?_;refine S As (nil ?_);exact F _ (O,(q+1)) wA b (dl w)
  rw [jR] at b;have b:=ku E b;refine ah.exit ?_;obtain⟨al,P,b⟩:=bT b;have b:=ku P b;exact C _ p wA b
 rintro an b;try dsimp only at b
 refine af (S Mv (S As (nil ?_)));exact rt b
def tN (b:ai)  (f:(Sl Bs)):Option Bool:=(tL f b.aa).bind fun g=>some g
def pF (i:aj) (f:ai) :Nat->(Sl Bs)->Nat->Option Bool
 | 0,_,_=>none
 | j+1,b,g=>bif (decide (((g:Nat):Int)<((b.l.length:Nat):Int))) then((b.l[g]?).bind fun k=>(ph i k).bind fun m=>(pE i m.1 f.aa b).bind fun o=>(pF i f j) o (g+1)) else(tN f  b)
def q7 (f:aj) (b:ai):Option Bool:=bif (!decide (b.ar=(5:Int))) then(some false) else((pE f b b.aa (Sl.nil:Sl Bs)).bind fun g=>pF f b F0 g 0)
theorem ID {o:aj}{i:ai}{r:Bool}(b:q7 o i=some r) (H:ak) :AC Tryz.prog 84 [.agg (aj.c o),.agg (ai.c i)] H fun v h'=>v=.a (.d (.bool r))/\h'=H:=by
 unfold q7 at b;refine AC.oW 42 [.tmp 4] Tryz.call84 Tryz.func84 ?_;refine ah.tok 1 fun g j=>?_;refine af (S BX (S BX (S As (nil ?_))));refine ax fun C p=>?_;refine af (S Fv (S Ld (S BI (nil ?_))));refine cE b (fun E b=>?_) (fun E b=>?_)
 ·refine af (S As (nil ?_));refine ah.ret ?_;repeat (first|refine bE ?_|refine bF ?_)
  obtain rfl:=oJ b;refine bn.bG H rfl ⟨rfl,rfl⟩ ?_
  first|exact ak.bS j|(simp only [ak.set_set]; exact ak.bS j)
 refine sk p ?_;clear p C;refine af (S Ld (S Ld (S Fv (S Ld ?_))));obtain⟨q,F,b⟩:=bO b;refine sH (bU rfl rfl (AC.Bk (.cons (.refl _) (.cons (.refl _) (.cons (.refl _) (.cons (jd.nil (k':=1) (t:=g) aB) .nil)))) (B4 F _ aB))) rfl ?_;refine hq (H.set g (some (.tok 1 q.l.length))) ?_;refine S As (nil ?_);refine aP (TA 3 kN) (fun(z:(Sl Bs))=>[(5,.a (.d (Sl.d 1 aI (some g) z)))]) (fun z=>(H.set g (some (.tok 1 z.l.length)))) (fun z=>tN i z=some r) ?_ ?_
 ·intro P G;refine af (S As (nil ?_));refine block ?_;refine bp (TA 2 (TA 3 kN)) (fun(z:Nat×(Sl Bs)×Nat)=>[(5,.a (.d (Sl.d 1 aI (some g) z.2.1))),(6,.a (.d (.int .i64 ((z.2.2:Nat):Int))))]) (fun z=>(H.set g (some (.tok 1 z.2.1.l.length)))) (fun z=>z.1) (fun z=>pF o i z.1 z.2.1 z.2.2=some r) (F0,q,0) b wA ?_;rintro ⟨k,u,w⟩ b Q I;try dsimp only at b
  cases k with
  | zero=>cases b
  | succ k =>
    rw [pF] at b;refine ax fun J x=>?_;refine af (S Mv (S Mv ?_));refine sLen (f:=aI) (s:=u) (TK rfl) rfl rfl rfl rfl fun R=>?_;refine S BI (nil ?_);refine cE b (fun m b=>?_) (fun m b=>?_)
    ·try dsimp only at m
     have U:=oD m;refine sk x ?_;clear x J;refine ax fun K y=>?_;refine block ?_;refine ah.b5 (Sd Ld (Sd Mv (Sd Mv ?_)));obtain⟨W,L,b⟩:=bO b;refine Sd (ix aI w L) (Sd Ld ?_);obtain⟨X,M,b⟩:=bO b;refine ct rfl rfl (iz M) ?_;refine Sd Mv (Sd EX (Sd EX ?_));refine au.sB (TK rfl) rfl rfl ?_ (by repeat (first|exact bN.nil|apply bN.cons))
     refine au.dA (eA (TK rfl) rfl rfl rfl rfl rfl) ?_;refine Sd As ?_;refine au.nil (by decide +kernel) ?_;refine bA 7 _ rfl (KA 2 (KA 3 (KA 5 (KA 6 aY.nil)))) ?_;refine region ?_;refine S Ld (S Ld (S Fv (S Ld (S Mv ?_))));obtain⟨B,N,b⟩:=bO b;refine sH (bU rfl rfl (B4 N _ aB)) rfl ?_;refine hq (H.set g (some (.tok 1 B.l.length))) ?_;refine S As (nil ?_)
     refine y _ ?_;clear y K;refine region ?_;refine S Mv ?_;refine SI ?_;refine S As (nil ?_);exact I _ (k,B,(w+1)) wA b (nS _)
    refine ah.exit ?_;exact G _ u wA b
 rintro Y b;try dsimp only at b
 unfold tN at b;refine af (S Mv (S Fv (S Ld ?_)));obtain⟨Z,O,b⟩:=bO b;refine Sc rfl rfl (B3 O) ?_;refine S As (nil ?_);refine ah.ret ?_;repeat (first|refine bE ?_|refine bF ?_)
 obtain rfl:=oJ b;refine bn.bG H rfl ⟨rfl,rfl⟩ ?_
 first|exact ak.bS j|(simp only [ak.set_set]; exact ak.bS j)
def q8  (b:(Sl Z6)):Option (Sl Z6):=some b
def l9 (j:aj) (b:ai)  (f:(Sl Z6)):Option (Sl Z6):=(q7 j b).bind fun g=>bif g then((aQ 24 f (⟨false,[(Z6.mk (5:Int) b.aa)]⟩:Sl Z6)).bind fun i=>q8   i) else(q8   f)
def pG (g:aj) (b:ai)  (f:(Sl Z6)):Option (Sl Z6):=bif (((((((b.aa==([81,117,101,114,121]:Bs)))||((b.aa==([77,117,116,97,116,105,111,110]:Bs))))||((b.aa==([83,117,98,115,99,114,105,112,116,105,111,110]:Bs))))&&(!decide (b.ar=(1:Int))))||(decide (b.ar<(1:Int))))||(decide ((5:Int)<b.ar))) then((aQ 24 f (⟨false,[(Z6.mk (9:Int) b.aa)]⟩:Sl Z6)).bind fun i=>l9 g b  i) else(l9 g b  f)
def pH (g:aj) (b:ai)  (i:Bool):Option (Sl Z6):=(px b.aa false i b.aa).bind fun f=>(tK b).bind fun j=>bif j then((aQ 24 f (⟨false,[(Z6.mk (8:Int) b.aa)]⟩:Sl Z6)).bind fun k=>pG g b  k) else(pG g b  f)
def pI (i:aj) (j:Int) (b:ai) :Nat->Bool->Int->Option (Sl Z6)
 | 0,_,_=>none
 | k+1,f,g=>bif (decide (g<j)) then(aU (!f) (cI i.an.l g) ai.zero fun m=>(cA g (1:Int)).bind fun o=>(pI i j b k) (f||((m.aa==b.aa))) o) else(pH i b  f)
def q9 (g:aj) (b:Int):Option (Sl Z6):=(cI g.an.l b).bind fun f=>(tF f.aa).bind fun i=>pI g b f F0 i (0:Int)
theorem IE {i:aj}{m:Int}{r:Sl Z6}(b:q9 i m=some r) (H:ak) :AC Tryz.prog 49 [.agg (aj.c i),.d (.int .i64 m)] H fun v h'=>v=.a (.d (Sl.d 2 Z6.c none r))/\h'=H:=by
 unfold q9 at b;refine AC.oW 94 [.tmp 4] Tryz.call49 Tryz.func49 ?_;refine af (S BX ?_);refine s0 (dc (k':=2) rfl) rfl ?_;refine nil ?_;refine af (S Fv (S Ld (S Mv ?_)));obtain⟨j,F,b⟩:=bO b;refine s0 (je (f:=ai.c) (TK rfl) rfl (TK rfl) rfl rfl rfl F) rfl ?_;refine S Ld ?_;refine Sl ?_;refine Sf ?_;refine nil ?_;refine bA 5 _ rfl (KA 1 (KA 2 aY.nil)) ?_;refine af (S Fv (S Ld ?_))
 obtain⟨G,I,b⟩:=bO b;refine Sc rfl rfl (pq I) ?_;refine S As (nil ?_);refine aP (TA 2 (TA 5 kN)) (fun(z:Bool)=>[(6,.a (.d (.bool z)))]) (fun z=>H) (fun z=>pH i j z=some r) ?_ ?_
 ·intro ao J;refine af (S As (nil ?_));refine block ?_;refine bp (TA 1 (TA 2 (TA 5 kN))) (fun(z:Nat×Bool×Int)=>[(6,.a (.d (.bool z.2.1))),(7,.a (.d (.int .i64 z.2.2)))]) (fun z=>H) (fun z=>z.1) (fun z=>pI i m j z.1 z.2.1 z.2.2=some r) (F0,G,(0:Int)) b wA ?_;rintro ⟨o,p,ap⟩ b ar K;try dsimp only at b
  cases o with
  | zero=>cases b
  | succ o =>
    rw [pI] at b;refine ax fun L q=>?_;refine af (S Mv (S Mv (S BI (nil ?_))));refine cE b (fun M b=>?_) (fun M b=>?_)
    ·refine sk q ?_;clear q L;refine ax fun N s=>?_;refine block ?_;refine ah.draw rfl ?_;refine Sd Mv (Sd Mv (cD Fv ?_));refine cM 25 rfl Ld ?_;refine cD Mv ?_;obtain⟨O,P,b⟩:=gO b;refine au.gC rfl rfl (fun hC=>aL (k:=26) rfl (aL (k:=27) rfl (je (f:=ai.c) (TK rfl) rfl (TK rfl) rfl rfl rfl (P hC)))) rfl ?_;refine cM 28 rfl Fv ?_;refine cM 29 rfl Ld ?_;refine cD Fv ?_
     refine cM 31 rfl Ld ?_;refine tu 30 32 rfl rfl BS ?_;refine Sd PO (Sd As ?_);refine au.nil (by decide +kernel) ?_;refine s _ ?_;clear s N;refine region ?_;refine S Mv ?_;obtain⟨Q,R,b⟩:=bO b;refine s0 (eL rfl rfl R) rfl ?_;refine S As (nil ?_);exact K _ (o,(p||((O.aa==j.aa))),Q) wA b (nS _)
    refine ah.exit ?_;exact J _ p wA b
 rintro av b;try dsimp only at b
 unfold pH at b;refine ah.tok 2 fun g t=>?_;refine af (S Fv (S Ld (S Mv (S Fv (S Ld ?_)))));obtain⟨u,U,b⟩:=bO b;refine sH (bU rfl rfl (Ix U _ aB)) rfl ?_;refine hq (H.set g (some (.tok 2 u.l.length))) ?_;refine S As (nil ?_);refine aP (TA 2 (TA 5 kN)) (fun(z:(Sl Z6))=>[(8,.a (.d (Sl.d 2 Z6.c (some g) z)))]) (fun z=>(H.set g (some (.tok 2 z.l.length)))) (fun z=>pG i j z=some r) ?_ ?_
 ·intro aw w;refine af (S Ld ?_);obtain⟨ay,W,b⟩:=bO b;refine Sc rfl rfl (Iz W) ?_;refine nil ?_;refine cE b (fun X b=>?_) (fun X b=>?_)
  ·refine region ?_;refine S Mv (S Fv (S Ld (S BU (S BV ?_))));obtain⟨x,Y,b⟩:=bO b;refine SH (am Z6.c (TK rfl) rfl (TK rfl) (TK rfl) Y) ?_;refine hq (H.set g (some (.tok 2 x.l.length))) ?_;refine S As (nil ?_);exact w _ x wA b
  refine ah.skip ?_;exact w _ u wA b
 rintro Z b;try dsimp only at b
 unfold pG at b;refine af (S Fv (S Ld (S BS (S Mv (G0 Fv ?_)))));refine G1 53 rfl Ld ?_;refine G1 54 rfl BS ?_;refine S PO (S Mv (G0 Fv ?_));refine G1 58 rfl Ld ?_;refine G1 59 rfl BS ?_;refine S PO (S As (nil ?_));refine aP (TA 2 (TA 5 kN)) (fun(z:(Sl Z6))=>[(8,.a (.d (Sl.d 2 Z6.c (some g) z)))]) (fun z=>(H.set g (some (.tok 2 z.l.length)))) (fun z=>l9 i j z=some r) ?_ ?_
 ·intro az y;refine af (S Mv (S Mv (G0 Fv ?_)));refine G1 64 rfl Ld ?_;refine G1 65 rfl BI ?_;refine S PA (S Mv (G0 Fv ?_));refine G1 69 rfl Ld ?_;refine G1 70 rfl BI ?_;refine S PO (S Mv (G0 Fv ?_));refine G1 74 rfl Ld ?_;refine G1 75 rfl BI ?_;refine S PO (nil ?_);refine cE b (fun ab b=>?_) (fun ab b=>?_)
  ·refine region ?_;refine S Mv (S Fv (S Ld (S BU (S BV ?_))));obtain⟨B,ad,b⟩:=bO b;refine SH (am Z6.c (TK rfl) rfl (TK rfl) (TK rfl) ad) ?_;refine hq (H.set g (some (.tok 2 B.l.length))) ?_;refine S As (nil ?_);exact y _ B wA b
  refine ah.skip ?_;exact y _ Z wA b
 rintro ae b;try dsimp only at b
 unfold l9 at b;refine aP kN (fun(z:(Sl Z6))=>[(8,.a (.d (Sl.d 2 Z6.c (some g) z)))]) (fun z=>(H.set g (some (.tok 2 z.l.length)))) (fun z=>q8 z=some r) ?_ ?_
 ·intro aA C;refine af (S Ld (S Ld ?_));obtain⟨aC,ag,b⟩:=bO b;refine Sc rfl rfl (ID ag) ?_;refine nil ?_;refine cE b (fun al b=>?_) (fun al b=>?_)
  ·refine region ?_;refine S Mv (S Fv (S Ld (S BU (S BV ?_))));obtain⟨E,an,b⟩:=bO b;refine SH (am Z6.c (TK rfl) rfl (TK rfl) (TK rfl) an) ?_;refine hq (H.set g (some (.tok 2 E.l.length))) ?_;refine S As (nil ?_);exact C _ E wA b
  refine ah.skip ?_;exact C _ ae wA b
 rintro aD b;try dsimp only at b
 unfold q8 at b;refine af (S Mv (S As (nil ?_)));refine ah.dm 4 rfl ?_;refine ah.ret ?_;repeat (first|refine bE ?_|refine bF ?_)
 obtain rfl:=oJ b;refine bn.bG H rfl ⟨rfl,rfl⟩ ?_
 first|exact ak.bS t|(simp only [ak.set_set]; exact ak.bS t)
def tO (f:aj) (b:Int):Option (Sl Z6):=q9 f b
theorem IF (a0:aj) (b:Int):q9 a0 b=tO a0 b:=rfl
def jj (i:aj) (b:Bs):Bool:=on (cU i b) fun f=>on (dh b) fun g=>(g||f.2)
def wv (f:aj) (b:Bs):Option Bool:=some (jj f b)
theorem B5 (a0:aj) (b:Bs):wv a0 b=some (jj a0 b):=rfl
theorem B6 {g:aj}{f:Bs}{r:Bool}(b:wv g f=some r) (H:ak) :AC Tryz.prog 86 [.agg (aj.c g),.d (.str f)] H fun v h'=>v=.a (.d (.bool r))/\h'=H:=by
 unfold wv jj at b;refine AC.oW 18 [.tmp 4] Tryz.call86 Tryz.func86 ?_;refine af (S BX (S As (nil ?_)));refine af (S Ld (S Mv ?_));obtain⟨k,i,b⟩:=vP (iy _ _) b;refine Sc rfl rfl (iz i) ?_;refine S Mv (S EX (S EX ?_));refine Sl ?_;refine Sf ?_;refine S As (nil ?_);refine bA 5 _ rfl (KA 1 (KA 6 aY.nil)) ?_;refine af (S Mv ?_);obtain⟨l,j,b⟩:=vP (pn _) b
 refine Sc rfl rfl (pq j) ?_;refine S Mv (G0 Mv (S PO (S As (nil ?_))));exact rt b
def jk (b:Bs):List Z8->Unit ⊕ ((Z8×Bool))
 | []=>Sum.inl ()
 | f::g=>on (f) fun i=>bif ((i.aa==b)) then(on (f) fun j=>Sum.inr (j,true)) else(jk b (g) )
def fQ (i:(Sl Z8)) (b:Bs):(Z8×Bool):=on (jk b i.l ) fun f=>match f with|Sum.inl _=>(on (()) fun _=>((Z8.mk ([]:Bs) aG.zero false ag.zero (Sl.nil:Sl av)),false))|Sum.inr g=>(g)
def ww (f:(Sl Z8)) (b:Bs):Option (Z8×Bool):=some (fQ f b)
theorem tP (a0:(Sl Z8)) (b:Bs):ww a0 b=some (fQ a0 b):=rfl
theorem tQ {g:Sl Z8}{i:Bs}{w0:Option Nat}{r:Z8×Bool}(b:ww g i=some r) (H:ak) :AC Tryz.prog 87 [.d (Sl.d 10 Z8.c w0 g),.d (.str i)] H fun v h'=>v=.dz [.agg (Z8.c r.1),.d (.bool r.2)]/\h'=H:=by
 unfold ww fQ at b;refine AC.oW 25 [.cell 4 63,.tmp 5] Tryz.call87 Tryz.func87 ?_;refine af ?_;refine Sl ?_;refine S As (nil ?_);refine ez (TA 4 kN) (fun(z:Z8)=>[]) (fun z=>[Z8.c z]) (fun z=>H) (fun z=>some (((Z8.mk ([]:Bs) aG.zero false ag.zero (Sl.nil:Sl av)),false))=some r) ?_ ?_
 ·intro I w;refine af (S As (nil ?_));refine block ?_;obtain⟨o,p,b⟩:=dU b;refine fK (TA 0 (TA 1 (TA 4 kN))) (fun(z:Nat×Z8)=>[(6,.a (.d (.int .i64 ((z.1:Nat):Int))))]) (fun z=>[Z8.c z.2]) (fun z=>H) (fun z=>g.l.length-z.1) (fun z=>o (jk i (g.l.drop z.1) )=some r) (0,Z8.zero) b wA ?_;rintro ⟨j,q⟩ b J x;try dsimp only at b
  refine ax fun y t=>?_;refine af (S Mv (S Mv ?_));refine sLen (f:=Z8.c) (s:=g) (TK rfl) rfl rfl rfl rfl fun K=>?_;refine S BI (nil ?_);refine ah.bK (fun l=>o (jk i l )=some r) b rfl (fun L k m b=>?_) (fun m b=>?_)
  ·rw [jk] at b;try dsimp only at m
   have M:=oD m;refine sk t ?_;clear t y;refine ax fun B u=>?_;refine block ?_;refine af (S Mv (S Mv ?_));obtain⟨N,C,b⟩:=vP k b;refine S (ix Z8.c j C) (S Fv (S Ld (S Mv (S BS (nil ?_)))));refine cP b (fun E b=>?_) (fun E b=>?_)
   ·refine af (S Mv (S Mv ?_));obtain⟨O,F,b⟩:=vP k b;refine S (ix Z8.c j F) (S Ld ?_);refine Sf ?_;refine S As (nil ?_);refine ah.ret ?_;repeat (first|refine bE ?_|refine bF ?_)
    have b:=ku p b;obtain rfl:=oJ b;refine bn.bG H rfl ⟨rfl,rfl⟩ ?_;exact(fun _ _ h=>h)
   refine sk u ?_;clear u B;refine region ?_;refine S Mv ?_;refine SI ?_;refine S As (nil ?_);exact x _ ((j+1),q) wA b (dl k)
  rw [jk] at b;have b:=ku p b;try dsimp only at b
  refine ah.exit ?_;obtain⟨P,G,b⟩:=dU b;have b:=ku G b;exact w _ q wA b
 rintro Q b;try dsimp only at b
 refine af (S BU ?_);refine Sf ?_;refine S As (nil ?_);exact rt b
def q_ (i:aj) (b:Bs):Bool:=on (cU i b) fun f=>on (dh b) fun g=>(g||(f.2&&(decide (f.1.ar=(4:Int)))))
def wx (f:aj) (b:Bs):Option Bool:=some (q_ f b)
theorem IG (a0:aj) (b:Bs):wx a0 b=some (q_ a0 b):=rfl
theorem II {g:aj}{f:Bs}{r:Bool}(b:wx g f=some r) (H:ak) :AC Tryz.prog 123 [.agg (aj.c g),.d (.str f)] H fun v h'=>v=.a (.d (.bool r))/\h'=H:=by
 unfold wx q_ at b;refine AC.oW 23 [.tmp 4] Tryz.call123 Tryz.func123 ?_;refine af (S BX (S As (nil ?_)));refine af (S Ld (S Mv ?_));obtain⟨l,i,b⟩:=vP (iy _ _) b;refine Sc rfl rfl (iz i) ?_;refine S Mv (S EX (S EX ?_));refine Sl ?_;refine Sf ?_;refine S As (nil ?_);refine bA 5 _ rfl (KA 1 (KA 6 aY.nil)) ?_;refine af (S Mv ?_);obtain⟨m,j,b⟩:=vP (pn _) b
 refine Sc rfl rfl (pq j) ?_;refine S Mv (G0 Mv ?_);refine G1 16 rfl Mv ?_;refine G0 Fv ?_;refine G1 18 rfl Ld ?_;refine G1 19 rfl BI ?_;refine gC rfl rfl (fun hC=>aL (k:=17) rfl (gR rfl rfl rfl)) rfl ?_;refine S PO (S As (nil ?_));exact rt b
def fF (g:aj) (b:Bs):Bool:=on (cU g b) fun f=>on (q_ g b) fun i=>(i||(f.2&&(decide (f.1.ar=(5:Int)))))
def wy (f:aj) (b:Bs):Option Bool:=some (fF f b)
theorem wz (a0:aj) (b:Bs):wy a0 b=some (fF a0 b):=rfl
theorem wB {g:aj}{f:Bs}{r:Bool}(b:wy g f=some r) (H:ak) :AC Tryz.prog 88 [.agg (aj.c g),.d (.str f)] H fun v h'=>v=.a (.d (.bool r))/\h'=H:=by
 unfold wy fF at b;refine AC.oW 24 [.tmp 4] Tryz.call88 Tryz.func88 ?_;refine af (S BX (S As (nil ?_)));refine af (S Ld (S Mv ?_));obtain⟨l,i,b⟩:=vP (iy _ _) b;refine Sc rfl rfl (iz i) ?_;refine S Mv (S EX (S EX ?_));refine Sl ?_;refine Sf ?_;refine S As (nil ?_);refine bA 5 _ rfl (KA 1 (KA 2 (KA 6 aY.nil))) ?_;refine af (S Ld (S Mv ?_));obtain⟨m,j,b⟩:=vP (IG _ _) b
 refine Sc rfl rfl (II j) ?_;refine S Mv (G0 Mv ?_);refine G1 17 rfl Mv ?_;refine G0 Fv ?_;refine G1 19 rfl Ld ?_;refine G1 20 rfl BI ?_;refine gC rfl rfl (fun hC=>aL (k:=18) rfl (gR rfl rfl rfl)) rfl ?_;refine S PO (S As (nil ?_));exact rt b
def jS (m:aj) (f:(Sl Z8)) (o:Bs) (p:Bs):List Z8->Nat->(Sl Z6)->Option ((Sl Z6))
 | [],g,i=>some i
 | b::q,g,i=>on (b) fun r=>(cr o r.aa).bind fun s=>(cr s p).bind fun j=>on ((⟨f.nl,f.l.take g⟩:Sl Z8)) fun t=>on (b) fun u=>on (fQ t u.aa) fun v=>on (b) fun w=>(ji w.aa false v.2 j).bind fun x=>(aQ 24 i x).bind fun k=>on (b) fun y=>on (jj m y.aA.aa) fun z=>Option.bind (bif (!z) then((aQ 24 k (⟨false,[(Z6.mk (8:Int) j)]⟩:Sl Z6)).bind fun B=>some B) else(on (b) fun C=>on (fF m C.aA.aa) fun E=>bif (!E) then((aQ 24 k (⟨false,[(Z6.mk (10:Int) j)]⟩:Sl Z6)).bind fun F=>some F) else(some k))) fun G=>jS m f o p (q) (g+1) G
def kI (i:aj) (b:(Sl Z8)) (j:Bs) (k:Bs):Option (Sl Z6):=Option.bind (jS i b j k b.l 0 (Sl.nil:Sl Z6)) fun f=>on (f) fun g=>some g
def wC (f:aj) (b:(Sl Z8)) (g:Bs) (i:Bs):Option (Sl Z6):=kI f b g i
theorem B7 (a0:aj) (b:(Sl Z8)) (a2:Bs) (a3:Bs):wC a0 b a2 a3=kI a0 b a2 a3:=rfl
theorem B8 {m:aj}{j:Sl Z8}{o p:Bs}{G:Option Nat}{r:Sl Z6}(b:wC m j o p=some r) (H:ak) :AC Tryz.prog 52 [.agg (aj.c m),.d (Sl.d 10 Z8.c G j),.d (.str o),.d (.str p)] H fun v h'=>v=.a (.d (Sl.d 2 Z6.c none r))/\h'=H:=by
 unfold wC kI at b;refine AC.oW 80 [.tmp 8] Tryz.call52 Tryz.func52 ?_;refine ah.tok 2 fun g x=>?_;refine af (S BX ?_);refine s0 (dc (k':=2) rfl) rfl ?_;refine nil ?_;refine af (S As (nil ?_));refine ah.eH 9 2 g rfl aB ?_;refine aP kN (fun(z:(Sl Z6))=>[(9,.a (.d (Sl.d 2 Z6.c (some g) z)))]) (fun z=>(H.set g (some (.tok 2 z.l.length)))) (fun z=>(some z)=some r) ?_ ?_
 ·intro ap I;refine af (S As (nil ?_));refine block ?_;obtain⟨q,J,b⟩:=bY b;refine bp (TA 1 (TA 2 (TA 3 (TA 4 kN)))) (fun(z:(Sl Z6)×Nat)=>[(9,.a (.d (Sl.d 2 Z6.c (some g) z.1))),(10,.a (.d (.int .i64 ((z.2:Nat):Int))))]) (fun z=>(H.set g (some (.tok 2 z.1.l.length)))) (fun z=>j.l.length-z.2) (fun z=>Option.bind (jS m j o p (j.l.drop z.2) z.2 z.1) q=some r) ((Sl.nil:Sl Z6),0) b wA ?_
  rintro ⟨y,i⟩ b ar K;try dsimp only at b
  refine ax fun L B=>?_;refine af (S Mv (S Mv ?_));refine sLen (f:=Z8.c) (s:=j) (TK rfl) rfl rfl rfl rfl fun av=>?_;refine S BI (nil ?_);refine ah.bK (fun l=>Option.bind (jS m j o p l i y) q=some r) b rfl (fun aw k t b=>?_) (fun t b=>?_)
  ·rw [jS] at b;try dsimp only at t
   have ay:=oD t;refine sk B ?_;clear B L;refine aP (TA 1 (TA 2 (TA 3 (TA 4 (TA 10 kN))))) (fun(z:(Sl Z6))=>[(9,.a (.d (Sl.d 2 Z6.c (some g) z)))]) (fun z=>(H.set g (some (.tok 2 z.l.length)))) (fun z=>Option.bind (jS m j o p (j.l.drop (i+1)) (i+1) z) q=some r) ?_ ?_
   ·intro az u;refine block ?_;refine af (S Mv (S Mv (S Mv ?_)));obtain⟨aA,M,b⟩:=vO k b;refine S (ix Z8.c i M) (S Fv (S Ld ?_));obtain⟨aC,N,b⟩:=qO rfl b;refine s0 (dP rfl rfl N) rfl ?_;refine S Mv ?_;obtain⟨aD,O,b⟩:=qO rfl b;refine s0 (dP rfl rfl O) rfl ?_;refine S As (nil ?_);refine ah.b5 (Sd Mv (Sd Mv ?_));obtain⟨aE,P,b⟩:=vO (Q.th (by omega)) b
    refine au.s0 (qY (f:=Z8.c) (l:=none) (r:=(some ((i:Nat):Int))) (TK rfl) rfl (TK rfl) rfl rfl trivial rfl P) rfl ?_;refine Sd Mv (Sd Mv ?_);obtain⟨aF,R,b⟩:=vO k b;refine Sd (ix Z8.c i R) (Sd Fv (Sd Ld ?_));obtain⟨aG,U,b⟩:=vO (tP _ _) b;refine ct rfl rfl (tQ U) ?_;refine Sd Mv (Sd EX (Sd EX ?_));refine au.sB (TK rfl) rfl rfl ?_ (by repeat (first|exact bN.nil|apply bN.cons))
    refine au.dA (eA (TK rfl) rfl rfl rfl rfl rfl) ?_;refine Sd As ?_;refine au.nil (by decide +kernel) ?_;refine bA 12 _ rfl (KA 1 (KA 2 (KA 3 (KA 4 (KA 9 (KA 10 (KA 11 (KA 13 aY.nil)))))))) ?_;refine af (S Mv (S Mv (S Mv ?_)));obtain⟨aH,W,b⟩:=vO k b;refine S (ix Z8.c i W) (S Fv (S Ld (S Mv (S Mv ?_))));obtain⟨aI,X,b⟩:=qO (tI _ _ _ _) b;refine Sc rfl rfl (wq X) ?_
    obtain⟨C,Y,b⟩:=qO rfl b;refine SH (am Z6.c (TK rfl) rfl (TK rfl) (TK rfl) Y) ?_;refine hq (H.set g (some (.tok 2 C.l.length))) ?_;refine S As (nil ?_);refine ah.b5 (Sd Ld (Sd Mv (Sd Mv ?_)));obtain⟨aJ,Z,b⟩:=vO k b;refine Sd (ix Z8.c i Z) (Sd Fv (Sd Fv (Sd Ld ?_)));obtain⟨aK,aa,b⟩:=vO (B5 _ _) b;refine ct rfl rfl (B6 aa) ?_;refine Sd NB ?_;refine au.nil (by decide +kernel) ?_
    obtain⟨aL,w,b⟩:=dZ b;refine cO b (fun ab b=>?_) (fun ab b=>?_)
    ·refine region ?_;refine S Mv (S Mv (S BU (S BV ?_)));obtain⟨E,ad,b⟩:=qO rfl b;refine SH (am Z6.c (TK rfl) rfl (TK rfl) (TK rfl) ad) ?_;refine hq (H.set g (some (.tok 2 E.l.length))) ?_;refine S As (nil ?_);have b:=ku w b;exact u _ E wA b
    refine ah.b5 (Sd Ld (Sd Mv (Sd Mv ?_)));obtain⟨aM,ae,b⟩:=vO k b;refine Sd (ix Z8.c i ae) (Sd Fv (Sd Fv (Sd Ld ?_)));obtain⟨aN,ag,b⟩:=vO (wz _ _) b;refine ct rfl rfl (wB ag) ?_;refine Sd NB ?_;refine au.nil (by decide +kernel) ?_;refine cO b (fun ai b=>?_) (fun ai b=>?_)
    ·refine region ?_;refine S Mv (S Mv (S BU (S BV ?_)));obtain⟨F,al,b⟩:=qO rfl b;refine SH (am Z6.c (TK rfl) rfl (TK rfl) (TK rfl) al) ?_;refine hq (H.set g (some (.tok 2 F.l.length))) ?_;refine S As (nil ?_);have b:=ku w b;exact u _ F wA b
    refine ah.skip ?_;have b:=ku w b;exact u _ C wA b
   rintro an b;try dsimp only at b
   refine region ?_;refine S Mv ?_;refine SI ?_;refine S As (nil ?_);exact K _ (an,(i+1)) wA b (dl k)
  rw [jS] at b;have b:=ku J b;refine ah.exit ?_;obtain⟨aO,ao,b⟩:=bT b;have b:=ku ao b;exact I _ y wA b
 rintro aQ b;try dsimp only at b
 refine af (S Mv (S As (nil ?_)));refine ah.dm 8 rfl ?_;refine ah.ret ?_;repeat (first|refine bE ?_|refine bF ?_)
 obtain rfl:=oJ b;refine bn.bG H rfl ⟨rfl,rfl⟩ ?_
 first|exact ak.bS x|(simp only [ak.set_set]; exact ak.bS x)
def jm (b:Bs):List Z7->Unit ⊕ ((Z7×Bool))
 | []=>Sum.inl ()
 | f::g=>on (f) fun i=>bif ((i.aa==b)) then(on (f) fun j=>Sum.inr (j,true)) else(jm b (g) )
def kJ (i:ai) (b:Bs):(Z7×Bool):=on (jm b i.ay.l ) fun f=>match f with|Sum.inl _=>(on (()) fun _=>((Z7.mk ([]:Bs) (Sl.nil:Sl Z8) aG.zero (Sl.nil:Sl av)),false))|Sum.inr g=>(g)
def wD (f:ai) (b:Bs):Option (Z7×Bool):=some (kJ f b)
theorem B9 (a0:ai) (b:Bs):wD a0 b=some (kJ a0 b):=rfl
theorem B_ {g:ai}{i:Bs}{r:Z7×Bool}(b:wD g i=some r) (H:ak) :AC Tryz.prog 85 [.agg (ai.c g),.d (.str i)] H fun v h'=>v=.dz [.agg (Z7.c r.1),.d (.bool r.2)]/\h'=H:=by
 unfold wD kJ at b;refine AC.oW 28 [.cell 4 40,.tmp 5] Tryz.call85 Tryz.func85 ?_;refine af (S BX ?_);refine Sl ?_;refine S As (nil ?_);refine ez (TA 4 kN) (fun(z:Z7)=>[]) (fun z=>[Z7.c z]) (fun z=>H) (fun z=>some (((Z7.mk ([]:Bs) (Sl.nil:Sl Z8) aG.zero (Sl.nil:Sl av)),false))=some r) ?_ ?_
 ·intro I w;refine af (S As (nil ?_));refine block ?_;obtain⟨o,p,b⟩:=dU b;refine fK (TA 1 (TA 2 (TA 4 kN))) (fun(z:Nat×Z7)=>[(6,.a (.d (.int .i64 ((z.1:Nat):Int))))]) (fun z=>[Z7.c z.2]) (fun z=>H) (fun z=>g.ay.l.length-z.1) (fun z=>o (jm i (g.ay.l.drop z.1) )=some r) (0,Z7.zero) b wA ?_;rintro ⟨j,q⟩ b J x;try dsimp only at b
  refine ax fun y t=>?_;refine af (S Mv (S Fv (S Ld ?_)));refine sLen (f:=Z7.c) (s:=g.ay) (TK rfl) rfl rfl rfl rfl fun K=>?_;refine S BI (nil ?_);refine ah.bK (fun l=>o (jm i l )=some r) b rfl (fun L k m b=>?_) (fun m b=>?_)
  ·rw [jm] at b;try dsimp only at m
   have M:=oD m;refine sk t ?_;clear t y;refine ax fun B u=>?_;refine block ?_;refine af (S Fv (S Ld (S Mv ?_)));obtain⟨N,C,b⟩:=vP k b;refine S (ix Z7.c j C) (S Fv (S Ld (S Mv (S BS (nil ?_)))));refine cP b (fun E b=>?_) (fun E b=>?_)
   ·refine af (S Fv (S Ld (S Mv ?_)));obtain⟨O,F,b⟩:=vP k b;refine S (ix Z7.c j F) (S Ld ?_);refine Sf ?_;refine S As (nil ?_);refine ah.ret ?_;repeat (first|refine bE ?_|refine bF ?_)
    have b:=ku p b;obtain rfl:=oJ b;refine bn.bG H rfl ⟨rfl,rfl⟩ ?_;exact(fun _ _ h=>h)
   refine sk u ?_;clear u B;refine region ?_;refine S Mv ?_;refine SI ?_;refine S As (nil ?_);exact x _ ((j+1),q) wA b (dl k)
  rw [jm] at b;have b:=ku p b;try dsimp only at b
  refine ah.exit ?_;obtain⟨P,G,b⟩:=dU b;have b:=ku G b;exact w _ q wA b
 rintro Q b;try dsimp only at b
 refine af (S BU ?_);refine Sf ?_;refine S As (nil ?_);exact rt b
def jo (i:aj) (f:ai):List Z7->Nat->(Sl Z6)->Option ((Sl Z6))
 | [],j,k=>some k
 | p::q,j,k=>on (p) fun b=>(cr f.aa ([46]:Bs)).bind fun r=>(cr r b.aa).bind fun g=>on ((⟨f.ay.nl,f.ay.l.take j⟩:Sl Z7)) fun s=>on (kJ (ai.mk (0:Int) ([]:Bs) (Sl.nil:Sl Bs) (Sl.nil:Sl av) s (Sl.nil:Sl Z9) (Sl.nil:Sl Z8)) b.aa) fun t=>(ji b.aa false t.2 g).bind fun u=>(aQ 24 k u).bind fun m=>on (cU i b.aA.aa) fun o=>on (jj i b.aA.aa) fun v=>Option.bind (bif (!v) then((aQ 24 m (⟨false,[(Z6.mk (8:Int) g)]⟩:Sl Z6)).bind fun w=>some w) else(on (dh b.aA.aa) fun x=>bif (((!x)&&o.2)&&(decide (o.1.ar=(5:Int)))) then((aQ 24 m (⟨false,[(Z6.mk (10:Int) g)]⟩:Sl Z6)).bind fun y=>some y) else(some m))) fun z=>(cr g ([40]:Bs)).bind fun B=>(kI i b.aF B ([41]:Bs)).bind fun C=>(aQ 24 z C).bind fun E=>on (E) fun F=>jo i f (q) (j+1) F
def pJ (i:aj) (b:ai):Option (Sl Z6):=Option.bind (jo i b b.ay.l 0 (Sl.nil:Sl Z6)) fun f=>on (f) fun g=>some g
def wE (f:aj) (b:ai):Option (Sl Z6):=pJ f b
theorem IJ (a0:aj) (b:ai):wE a0 b=pJ a0 b:=rfl
theorem IK {k:aj}{i:ai}{r:Sl Z6}(b:wE k i=some r) (H:ak) :AC Tryz.prog 50 [.agg (aj.c k),.agg (ai.c i)] H fun v h'=>v=.a (.d (Sl.d 2 Z6.c none r))/\h'=H:=by
 unfold wE pJ at b;refine AC.oW 95 [.tmp 4] Tryz.call50 Tryz.func50 ?_;refine ah.tok 2 fun g w=>?_;refine af (S BX (S BX ?_));refine s0 (dc (k':=2) rfl) rfl ?_;refine nil ?_;refine af (S As (nil ?_));refine ah.eH 5 2 g rfl aB ?_;refine aP kN (fun(z:(Sl Z6))=>[(5,.a (.d (Sl.d 2 Z6.c (some g) z)))]) (fun z=>(H.set g (some (.tok 2 z.l.length)))) (fun z=>(some z)=some r) ?_ ?_
 ·intro aA J;refine af (S As (nil ?_));refine block ?_;obtain⟨m,K,b⟩:=bY b;refine bp (TA 2 (TA 3 kN)) (fun(z:(Sl Z6)×Nat)=>[(5,.a (.d (Sl.d 2 Z6.c (some g) z.1))),(6,.a (.d (.int .i64 ((z.2:Nat):Int))))]) (fun z=>(H.set g (some (.tok 2 z.1.l.length)))) (fun z=>i.ay.l.length-z.2) (fun z=>Option.bind (jo k i (i.ay.l.drop z.2) z.2 z.1) m=some r) ((Sl.nil:Sl Z6),0) b wA ?_
  rintro ⟨x,j⟩ b aC L;try dsimp only at b
  refine ax fun M y=>?_;refine af (S Mv (S Fv (S Ld ?_)));refine sLen (f:=Z7.c) (s:=i.ay) (TK rfl) rfl rfl rfl rfl fun aD=>?_;refine S BI (nil ?_);refine ah.bK (fun l=>Option.bind (jo k i l j x) m=some r) b rfl (fun aE B p b=>?_) (fun p b=>?_)
  ·rw [jo] at b;try dsimp only at p
   have aG:=oD p;refine sk y ?_;clear y M;refine aP (TA 2 (TA 3 (TA 6 kN))) (fun(z:(Sl Z6))=>[(5,.a (.d (Sl.d 2 Z6.c (some g) z)))]) (fun z=>(H.set g (some (.tok 2 z.l.length)))) (fun z=>Option.bind (jo k i (i.ay.l.drop (j+1)) (j+1) z) m=some r) ?_ ?_
   ·intro aH N;refine block ?_;refine af (S Fv (S Ld (S Mv ?_)));obtain⟨O,P,b⟩:=vO B b;refine S (ix Z7.c j P) (S Ld ?_);refine Sl ?_;refine Sf ?_;refine nil ?_;refine bA 7 _ rfl (KA 2 (KA 3 (KA 5 (KA 6 aY.nil)))) ?_;refine af (S Fv (S Ld ?_));obtain⟨aI,R,b⟩:=qO rfl b;refine s0 (dP rfl rfl R) rfl ?_;refine S Fv (S Ld ?_);obtain⟨U,W,b⟩:=qO rfl b;refine s0 (dP rfl rfl W) rfl ?_
    refine S As (nil ?_);refine ah.b5 (Sd Fv (Sd Ld (Sd Mv ?_)));obtain⟨aJ,X,b⟩:=vO (Q.th (by omega)) b;refine au.s0 (qY (f:=Z7.c) (l:=none) (r:=(some ((j:Nat):Int))) (TK rfl) rfl (TK rfl) rfl rfl trivial rfl X) rfl ?_;refine Sd BU (Sd Fv (Sd Ld ?_));obtain⟨aK,Y,b⟩:=vO (B9 _ _) b;refine ct rfl rfl (B_ Y) ?_;refine Sd Mv (Sd EX (Sd EX ?_));refine au.sB (TK rfl) rfl rfl ?_ (by repeat (first|exact bN.nil|apply bN.cons))
    refine au.dA (eA (TK rfl) rfl rfl rfl rfl rfl) ?_;refine Sd As ?_;refine au.nil (by decide +kernel) ?_;refine bA 9 _ rfl (KA 2 (KA 3 (KA 5 (KA 6 (KA 7 (KA 8 (KA 10 aY.nil))))))) ?_;refine af (S Mv (S Fv (S Ld (S Mv (S Mv ?_)))));obtain⟨aL,Z,b⟩:=qO (tI _ _ _ _) b;refine Sc rfl rfl (wq Z) ?_;obtain⟨C,aa,b⟩:=qO rfl b;refine SH (am Z6.c (TK rfl) rfl (TK rfl) (TK rfl) aa) ?_
    refine hq (H.set g (some (.tok 2 C.l.length))) ?_;refine S As (nil ?_);refine af (S Ld (S Fv (S Fv (S Ld ?_))));obtain⟨aM,ab,b⟩:=vO (iy _ _) b;refine Sc rfl rfl (iz ab) ?_;refine S Mv (S EX (S EX ?_));refine Sl ?_;refine Sf ?_;refine S As (nil ?_);refine bA 11 _ rfl (KA 2 (KA 3 (KA 5 (KA 6 (KA 7 (KA 8 (KA 12 aY.nil))))))) ?_;refine aP (TA 2 (TA 3 (TA 6 (TA 7 (TA 8 kN))))) (fun(z:(Sl Z6))=>[(5,.a (.d (Sl.d 2 Z6.c (some g) z)))]) (fun z=>(H.set g (some (.tok 2 z.l.length)))) (fun z=>Option.bind ((cr U ([40]:Bs)).bind fun E=>(kI k O.aF E ([41]:Bs)).bind fun F=>(aQ 24 z F).bind fun o=>on (o) fun q=>jo k i (i.ay.l.drop (j+1)) (j+1) q) m=some r) ?_ ?_
    ·intro aN t;refine af (S Ld (S Fv (S Fv (S Ld ?_))));obtain⟨aO,ad,b⟩:=vO (B5 _ _) b;refine Sc rfl rfl (B6 ad) ?_;refine S NB (nil ?_);obtain⟨aR,u,b⟩:=dZ b;refine cO b (fun ae b=>?_) (fun ae b=>?_)
     ·refine region ?_;refine S Mv (S Mv (S BU (S BV ?_)));obtain⟨G,ag,b⟩:=qO rfl b;refine SH (am Z6.c (TK rfl) rfl (TK rfl) (TK rfl) ag) ?_;refine hq (H.set g (some (.tok 2 G.l.length))) ?_;refine S As (nil ?_);have b:=ku u b;exact t _ G wA b
     refine af (S Fv (S Fv (S Ld ?_)));obtain⟨aS,al,b⟩:=vO (pn _) b;refine Sc rfl rfl (pq al) ?_;refine S NB (S Mv (G0 Mv (S PA (S Mv (G0 Fv ?_)))));refine G1 77 rfl Ld ?_;refine G1 78 rfl BI ?_;refine S PA (nil ?_);refine cO b (fun an b=>?_) (fun an b=>?_)
     ·refine region ?_;refine S Mv (S Mv (S BU (S BV ?_)));obtain⟨I,ao,b⟩:=qO rfl b;refine SH (am Z6.c (TK rfl) rfl (TK rfl) (TK rfl) ao) ?_;refine hq (H.set g (some (.tok 2 I.l.length))) ?_;refine S As (nil ?_);have b:=ku u b;exact t _ I wA b
     refine ah.skip ?_;have b:=ku u b;exact t _ C wA b
    rintro aT b;try dsimp only at b
    refine region ?_;refine S Mv (S Ld (S Fv (S Ld (S Mv ?_))));obtain⟨E,ap,b⟩:=qO rfl b;refine s0 (dP rfl rfl ap) rfl ?_;obtain⟨F,ar,b⟩:=qO (B7 _ _ _ _) b;refine Sc rfl rfl (B8 ar) ?_;obtain⟨o,av,b⟩:=qO rfl b;refine SH (am Z6.c (TK rfl) rfl (TK rfl) (TK rfl) av) ?_;refine hq (H.set g (some (.tok 2 o.l.length))) ?_;refine S As (nil ?_);obtain⟨aU,aw,b⟩:=gT b
    have b:=ku aw b;exact N _ o wA b
   rintro q b;try dsimp only at b
   refine region ?_;refine S Mv ?_;refine SI ?_;refine S As (nil ?_);exact L _ (q,(j+1)) wA b (dl B)
  rw [jo] at b;have b:=ku K b;refine ah.exit ?_;obtain⟨aV,az,b⟩:=bT b;have b:=ku az b;exact J _ x wA b
 rintro aW b;try dsimp only at b
 refine af (S Mv (S As (nil ?_)));refine ah.dm 4 rfl ?_;refine ah.ret ?_;repeat (first|refine bE ?_|refine bF ?_)
 obtain rfl:=oJ b;refine bn.bG H rfl ⟨rfl,rfl⟩ ?_
 first|exact ak.bS w|(simp only [ak.set_set]; exact ak.bS w)
def kK (i:ai) (g:Z9):Nat->Nat->Bool->Option (Bool)
 | 0,f,b=>some b
 | j+1,f,b=>aU (!b) (i.aJ.l[f]?) Z9.zero fun k=>kK i g (j) (f+1) (b||((k.aa==g.aa)))
def iC (i:ai):List Z9->Nat->(Sl Z6)->Option ((Sl Z6))
 | [],f,g=>some g
 | j::k,f,g=>on (j) fun b=>Option.bind (kK i b f 0 false) fun l=>on (l) fun m=>(cr i.aa ([46]:Bs)).bind fun o=>(cr o b.aa).bind fun p=>(ji b.aa ((((b.aa==([116,114,117,101]:Bs)))||((b.aa==([102,97,108,115,101]:Bs))))||((b.aa==([110,117,108,108]:Bs)))) m p).bind fun q=>(aQ 24 g q).bind fun r=>on (r) fun s=>iC i (k) (f+1) s
def pK (b:ai):Option (Sl Z6):=Option.bind (iC b b.aJ.l 0 (Sl.nil:Sl Z6)) fun f=>on (f) fun g=>some g
def wF (b:ai):Option (Sl Z6):=pK b
theorem IL (a0:ai):wF a0=pK a0:=rfl
theorem IM {g:ai}{r:Sl Z6}(b:wF g=some r) (H:ak) :AC Tryz.prog 51 [.agg (ai.c g)] H fun v h'=>v=.a (.d (Sl.d 2 Z6.c none r))/\h'=H:=by
 unfold wF pK at b;refine AC.oW 58 [.tmp 2] Tryz.call51 Tryz.func51 ?_;refine ah.tok 2 fun i B=>?_;refine af (S BX ?_);refine s0 (dc (k':=2) rfl) rfl ?_;refine nil ?_;refine af (S As (nil ?_));refine ah.eH 3 2 i rfl aB ?_;refine aP kN (fun(z:(Sl Z6))=>[(3,.a (.d (Sl.d 2 Z6.c (some i) z)))]) (fun z=>(H.set i (some (.tok 2 z.l.length)))) (fun z=>(some z)=some r) ?_ ?_
 ·intro au M;refine af (S As (nil ?_));refine block ?_;obtain⟨p,N,b⟩:=bY b;refine bp (TA 1 kN) (fun(z:(Sl Z6)×Nat)=>[(3,.a (.d (Sl.d 2 Z6.c (some i) z.1))),(4,.a (.d (.int .i64 ((z.2:Nat):Int))))]) (fun z=>(H.set i (some (.tok 2 z.1.l.length)))) (fun z=>g.aJ.l.length-z.2) (fun z=>Option.bind (iC g (g.aJ.l.drop z.2) z.2 z.1) p=some r) ((Sl.nil:Sl Z6),0) b wA ?_
  rintro ⟨o,j⟩ b av O;try dsimp only at b
  refine ax fun P C=>?_;refine af (S Mv (S Fv (S Ld ?_)));refine sLen (f:=Z9.c) (s:=g.aJ) (TK rfl) rfl rfl rfl rfl fun aw=>?_;refine S BI (nil ?_);refine ah.bK (fun l=>Option.bind (iC g l j o) p=some r) b rfl (fun ay E t b=>?_) (fun t b=>?_)
  ·rw [iC] at b;try dsimp only at t
   have az:=oD t;refine sk C ?_;clear C P;refine aP (TA 1 (TA 4 kN)) (fun(z:(Sl Z6))=>[(3,.a (.d (Sl.d 2 Z6.c (some i) z)))]) (fun z=>(H.set i (some (.tok 2 z.l.length)))) (fun z=>Option.bind (iC g (g.aJ.l.drop (j+1)) (j+1) z) p=some r) ?_ ?_
   ·intro aA Q;refine block ?_;refine af (S Fv (S Ld (S Mv ?_)));obtain⟨m,R,b⟩:=vO E b;refine S (ix Z9.c j R) (S Fv (S Ld (S As (nil ?_))));refine af (S As (nil ?_));refine aP (TA 1 (TA 3 (TA 4 (TA 5 kN)))) (fun(z:Bool)=>[(6,.a (.d (.bool z)))]) (fun z=>(H.set i (some (.tok 2 o.l.length)))) (fun z=>Option.bind ((cr g.aa ([46]:Bs)).bind fun F=>(cr F m.aa).bind fun G=>(ji m.aa ((((m.aa==([116,114,117,101]:Bs)))||((m.aa==([102,97,108,115,101]:Bs))))||((m.aa==([110,117,108,108]:Bs)))) z G).bind fun I=>(aQ 24 o I).bind fun q=>on (q) fun u=>iC g (g.aJ.l.drop (j+1)) (j+1) u) p=some r) ?_ ?_
    ·intro aC U;refine af (S As (nil ?_));refine block ?_;obtain⟨J,W,b⟩:=dZ b;refine bp (TA 1 (TA 3 (TA 4 (TA 5 kN)))) (fun(z:Bool×Nat)=>[(6,.a (.d (.bool z.1))),(7,.a (.d (.int .i64 ((z.2:Nat):Int))))]) (fun z=>(H.set i (some (.tok 2 o.l.length)))) (fun z=>j-z.2) (fun z=>Option.bind (kK g m (j-z.2) z.2 z.1) J=some r) (false,0) b wA ?_;rintro ⟨w,x⟩ b aD X
     try dsimp only at b
     refine ax fun Y K=>?_;refine af (S Mv (S Mv (S BI (nil ?_))));refine ah.BA (fun l=>Option.bind (kK g m l x w) J=some r) b rfl (fun Z y b=>?_) (fun y b=>?_)
     ·rw [kK] at b;try dsimp only at y
      have aE:=oD y;refine sk K ?_;clear K Y;refine ax fun ab L=>?_;refine block ?_;refine region ?_;refine S Mv (S Mv (G0 Fv ?_));refine G1 28 rfl Ld ?_;refine G0 Mv ?_;obtain⟨ad,ae,b⟩:=eC rfl b;refine gC rfl rfl (fun hC=>aL (k:=29) rfl (aL (k:=30) rfl (dI (f:=Z9.c) (n:=x) (TK rfl) rfl (TK rfl) rfl rfl rfl (ae hC)))) rfl ?_;refine G1 31 rfl Fv ?_
      refine G1 32 rfl Ld ?_;refine G0 Mv ?_;refine G2 33 34 rfl rfl BS ?_;refine S PO (S As (nil ?_));refine L _ ?_;clear L ab;refine region ?_;refine S Mv ?_;refine SI ?_;refine S As (nil ?_);exact X _ ((w||((ad.aa==m.aa))),(x+1)) wA b (dn Z)
     rw [kK] at b;have b:=ku W b;refine ah.exit ?_;obtain⟨aF,ag,b⟩:=gT b;have b:=ku ag b;exact U _ w wA b
    rintro aG b;try dsimp only at b
    refine region ?_;refine S Mv (S Mv (S Mv (S BS (S Mv (G0 Mv ?_)))));refine G1 42 rfl BS ?_;refine S PO (S Mv (G0 Mv ?_));refine G1 46 rfl BS ?_;refine S PO (S Mv (S Fv (S Ld ?_)));obtain⟨F,aj,b⟩:=qO rfl b;refine s0 (dP rfl rfl aj) rfl ?_;refine S Mv ?_;obtain⟨G,al,b⟩:=qO rfl b;refine s0 (dP rfl rfl al) rfl ?_;obtain⟨I,an,b⟩:=qO (tI _ _ _ _) b;refine Sc rfl rfl (wq an) ?_
    obtain⟨q,ao,b⟩:=qO rfl b;refine SH (am Z6.c (TK rfl) rfl (TK rfl) (TK rfl) ao) ?_;refine hq (H.set i (some (.tok 2 q.l.length))) ?_;refine S As (nil ?_);obtain⟨aH,ap,b⟩:=gT b;have b:=ku ap b;exact Q _ q wA b
   rintro u b;try dsimp only at b
   refine region ?_;refine S Mv ?_;refine SI ?_;refine S As (nil ?_);exact O _ (u,(j+1)) wA b (dl E)
  rw [iC] at b;have b:=ku N b;refine ah.exit ?_;obtain⟨aI,ar,b⟩:=bT b;have b:=ku ar b;exact M _ o wA b
 rintro aK b;try dsimp only at b
 refine af (S Mv (S As (nil ?_)));refine ah.dm 2 rfl ?_;refine ah.ret ?_;repeat (first|refine bE ?_|refine bF ?_)
 obtain rfl:=oJ b;refine bn.bG H rfl ⟨rfl,rfl⟩ ?_
 first|exact ak.bS B|(simp only [ak.set_set]; exact ak.bS B)
def jT (g:aj):List ai->Nat->(Sl Z6)->Option ((Sl Z6))
 | [],i,j=>some j
 | k::l,i,j=>on (k) fun b=>(tO g ((i:Nat):Int)).bind fun m=>(aQ 24 j m).bind fun f=>on (bif (decide (b.ar=(1:Int))) then((decide (b.ar=(1:Int)))) else((decide (b.ar=(2:Int))))) fun o=>Option.bind (bif o then((pJ g b).bind fun p=>(aQ 24 f p).bind fun q=>some q) else(bif (decide (b.ar=(4:Int))) then((pK b).bind fun r=>(aQ 24 f r).bind fun s=>some s) else(bif (decide (b.ar=(5:Int))) then((cr b.aa ([46]:Bs)).bind fun t=>(kI g b.aM t ([]:Bs)).bind fun u=>(aQ 24 f u).bind fun v=>some v) else(some f)))) fun w=>jT g (l) (i+1) w
def pL (b:aj) (g:Bool):Option (Sl Z6):=Option.bind (jT b b.an.l 0 (Sl.nil:Sl Z6)) fun i=>on (i) fun f=>on (cU b ([81,117,101,114,121]:Bs)) fun j=>Option.bind (bif (g&&(!j.2)) then((aQ 24 f (⟨false,[(Z6.mk (30:Int) ([81,117,101,114,121]:Bs))]⟩:Sl Z6)).bind fun k=>some k) else(some f)) fun m=>some m
def wG (f:aj) (b:Bool):Option (Sl Z6):=pL f b
theorem IN (a0:aj) (b:Bool):wG a0 b=pL a0 b:=rfl
theorem IP {i:aj}{p:Bool}{r:Sl Z6}(b:wG i p=some r) (H:ak){g:Nat}(aE:H g=some (.tok 2 0)):AC Tryz.prog 27 [.agg (aj.c i),.d (.bool p)] H fun v h'=>v=.a (.d (Sl.d 2 Z6.c (some g) r))/\h'=H.set g (some (.tok 2 r.l.length)):=by
 unfold wG pL at b;refine AC.oW 69 [.tmp 4] Tryz.call27 Tryz.func27 ?_;refine ah.dQ (h':=(H.set g (some (.tok 2 0)))) (by funext n_; simp only [ak.set]; (repeat' split)<;>simp_all) ?_;refine af (S BX (S As (nil ?_)));refine af (S As (nil ?_));refine ah.eH 5 2 g rfl aB ?_;refine aP (TA 1 (TA 2 kN)) (fun(z:(Sl Z6))=>[(5,.a (.d (Sl.d 2 Z6.c (some g) z)))]) (fun z=>(H.set g (some (.tok 2 z.l.length)))) (fun z=>(on (cU i ([81,117,101,114,121]:Bs)) fun w=>Option.bind (bif (p&&(!w.2)) then((aQ 24 z (⟨false,[(Z6.mk (30:Int) ([81,117,101,114,121]:Bs))]⟩:Sl Z6)).bind fun k=>some k) else(some z)) fun x=>some x)=some r) ?_ ?_
 ·intro aF L;refine af (S As (nil ?_));refine block ?_;obtain⟨q,M,b⟩:=bY b;refine bp (TA 1 (TA 2 kN)) (fun(z:(Sl Z6)×Nat)=>[(5,.a (.d (Sl.d 2 Z6.c (some g) z.1))),(6,.a (.d (.int .i64 ((z.2:Nat):Int))))]) (fun z=>(H.set g (some (.tok 2 z.1.l.length)))) (fun z=>i.an.l.length-z.2) (fun z=>Option.bind (jT i (i.an.l.drop z.2) z.2 z.1) q=some r) ((Sl.nil:Sl Z6),0) b wA ?_
  rintro ⟨y,j⟩ b aG N;try dsimp only at b
  refine ax fun O B=>?_;refine af (S Mv (S Fv (S Ld ?_)));refine sLen (f:=ai.c) (s:=i.an) (TK rfl) rfl rfl rfl rfl fun aH=>?_;refine S BI (nil ?_);refine ah.bK (fun l=>Option.bind (jT i l j y) q=some r) b rfl (fun aI C t b=>?_) (fun t b=>?_)
  ·rw [jT] at b;try dsimp only at t
   have aJ:=oD t;refine sk B ?_;clear B O;refine aP (TA 1 (TA 2 (TA 6 kN))) (fun(z:(Sl Z6))=>[(5,.a (.d (Sl.d 2 Z6.c (some g) z)))]) (fun z=>(H.set g (some (.tok 2 z.l.length)))) (fun z=>Option.bind (jT i (i.an.l.drop (j+1)) (j+1) z) q=some r) ?_ ?_
   ·intro aK m;refine block ?_;refine af (S Fv (S Ld (S Mv ?_)));obtain⟨E,P,b⟩:=vO C b;refine S (ix ai.c j P) (S Ld ?_);refine Sl ?_;refine Sf ?_;refine nil ?_;refine bA 7 _ rfl (KA 1 (KA 2 (KA 5 (KA 6 aY.nil)))) ?_;refine af (S Mv (S Ld (S Mv ?_)));obtain⟨aL,Q,b⟩:=qO (IF _ _) b;refine Sc rfl rfl (IE Q) ?_;obtain⟨u,R,b⟩:=qO rfl b;refine SH (am Z6.c (TK rfl) rfl (TK rfl) (TK rfl) R) ?_
    refine hq (H.set g (some (.tok 2 u.l.length))) ?_;refine S As (nil ?_);refine af (S Fv (S Ld (nil ?_)));refine block ?_;obtain⟨U,W,b⟩:=gT b;refine aP (TA 1 (TA 2 (TA 5 (TA 6 (TA 7 (TA 28 kN)))))) (fun(z:Bool)=>[(29,.a (.d (.bool z)))]) (fun z=>(H.set g (some (.tok 2 u.l.length)))) (fun z=>U z=some r) ?_ ?_
    ·intro aM F;refine af (S BI (S As (nil ?_)));refine cP b (fun X b=>?_) (fun X b=>?_)
     ·refine ah.skip ?_;exact F _ (decide (E.ar=(1:Int))) wA b
     refine region ?_;refine S BI (S As (nil ?_));exact F _ (decide (E.ar=(2:Int))) wA b
    rintro aN b;try dsimp only at b
    have b:=ku W b;obtain⟨aO,o,b⟩:=dZ b;refine cO b (fun Y b=>?_) (fun Y b=>?_)
    ·refine region ?_;refine S Mv (S Ld (S Ld ?_));obtain⟨aR,Z,b⟩:=qO (IJ _ _) b;refine Sc rfl rfl (IK Z) ?_;obtain⟨G,aa,b⟩:=qO rfl b;refine SH (am Z6.c (TK rfl) rfl (TK rfl) (TK rfl) aa) ?_;refine hq (H.set g (some (.tok 2 G.l.length))) ?_;refine S As (nil ?_);have b:=ku o b;exact m _ G wA b
    refine af (S BI (S As (nil ?_)));refine cO b (fun ab b=>?_) (fun ab b=>?_)
    ·refine region ?_;refine S Mv (S Ld ?_);obtain⟨aS,ad,b⟩:=qO (IL _) b;refine Sc rfl rfl (IM ad) ?_;obtain⟨I,ae,b⟩:=qO rfl b;refine SH (am Z6.c (TK rfl) rfl (TK rfl) (TK rfl) ae) ?_;refine hq (H.set g (some (.tok 2 I.l.length))) ?_;refine S As (nil ?_);have b:=ku o b;exact m _ I wA b
    refine af (S BI (S As (nil ?_)));refine cO b (fun ag b=>?_) (fun ag b=>?_)
    ·refine region ?_;refine S Mv (S Ld (S Fv (S Ld (S Fv (S Ld ?_)))));obtain⟨aT,al,b⟩:=qO rfl b;refine s0 (dP rfl rfl al) rfl ?_;obtain⟨aU,ao,b⟩:=qO (B7 _ _ _ _) b;refine Sc rfl rfl (B8 ao) ?_;obtain⟨J,ap,b⟩:=qO rfl b;refine SH (am Z6.c (TK rfl) rfl (TK rfl) (TK rfl) ap) ?_;refine hq (H.set g (some (.tok 2 J.l.length))) ?_;refine S As (nil ?_);have b:=ku o b
     exact m _ J wA b
    refine ah.skip ?_;have b:=ku o b;exact m _ u wA b
   rintro au b;try dsimp only at b
   refine region ?_;refine S Mv ?_;refine SI ?_;refine S As (nil ?_);exact N _ (au,(j+1)) wA b (dl C)
  rw [jT] at b;have b:=ku M b;refine ah.exit ?_;obtain⟨aV,av,b⟩:=bT b;have b:=ku av b;exact L _ y wA b
 rintro aw b;try dsimp only at b
 refine af (S Ld ?_);obtain⟨w,ay,b⟩:=vT (iy _ _) b;refine Sc rfl rfl (iz ay) ?_;refine S Mv (S EX (S EX ?_));refine Sl ?_;refine Sf ?_;refine S As (nil ?_);refine bA 8 _ rfl (KA 1 (KA 5 (KA 9 aY.nil))) ?_;obtain⟨az,aA,b⟩:=bY b;refine aP kN (fun(z:(Sl Z6))=>[(5,.a (.d (Sl.d 2 Z6.c (some g) z)))]) (fun z=>(H.set g (some (.tok 2 z.l.length)))) (fun z=>az z=some r) ?_ ?_
 ·intro aW K;refine af (S Mv (S Mv (G0 Mv ?_)));refine G1 61 rfl NB ?_;refine S PA (nil ?_);refine cO b (fun aC b=>?_) (fun aC b=>?_)
  ·refine region ?_;refine S Mv (S BU (S BV ?_));obtain⟨k,aD,b⟩:=qO rfl b;refine SH (am Z6.c (TK rfl) rfl (TK rfl) (TK rfl) aD) ?_;refine hq (H.set g (some (.tok 2 k.l.length))) ?_;refine S As (nil ?_);exact K _ k wA b
  refine ah.skip ?_;exact K _ aw wA b
 rintro x b;try dsimp only at b
 have b:=ku aA b;refine af (S Mv (S As (nil ?_)));exact rt b
def nP (i:aj) (f:Bs) (j:Int):Int:=on (cU i f) fun b=>on (bif (!b.2) then dh f else false) fun g=>bif ((!b.2)&&(!g)) then((8:Int)) else(bif (!decide (b.1.ar=j)) then((9:Int)) else((0:Int)))
def wH (f:aj) (b:Bs) (g:Int):Option Int:=some (nP f b g)
theorem Ca (a0:aj) (b:Bs) (a2:Int):wH a0 b a2=some (nP a0 b a2):=rfl
theorem Cb {j:aj}{f:Bs}{k r:Int}(b:wH j f k=some r) (H:ak) :AC Tryz.prog 89 [.agg (aj.c j),.d (.str f),.d (.int .i64 k)] H fun v h'=>v=.a (.d (.int .i64 r))/\h'=H:=by
 unfold wH nP at b;refine AC.oW 26 [.tmp 6] Tryz.call89 Tryz.func89 ?_;refine af (S BX (S As (nil ?_)));refine af (S Ld (S Mv ?_));obtain⟨t,l,b⟩:=vP (iy _ _) b;refine Sc rfl rfl (iz l) ?_;refine S Mv (S EX (S EX ?_));refine Sl ?_;refine Sf ?_;refine S As (nil ?_);refine bA 7 _ rfl (KA 1 (KA 2 (KA 8 aY.nil))) ?_;refine ax fun m g=>?_;refine af (S Mv (S NB (S Mv (G0 Mv ?_))))
 obtain⟨u,o,b⟩:=kG (fun _=>(pn _)) b;refine c6 18 rfl rfl rfl rfl rfl (fun hC=>pq (o hC)) ?_;refine G1 19 rfl NB ?_;refine S PA (nil ?_);refine cP b (fun p b=>?_) (fun p b=>?_)
 ·refine af (S As (nil ?_));exact rt b
 refine sk g ?_;clear g m;refine ax fun q i=>?_;refine af (S Fv (S Ld (S Mv (S BI (nil ?_)))));refine cP b (fun s b=>?_) (fun s b=>?_)
 ·refine af (S As (nil ?_));exact rt b
 refine sk i ?_;clear i q;refine af (S As (nil ?_));exact rt b
def kL (b:Bs):List Bs->Unit ⊕ Bool
 | []=>Sum.inl ()
 | f::g=>on (f) fun i=>bif ((i==b)) then(Sum.inr true) else(kL b (g) )
def jU (i:(Sl Bs)) (b:Bs):Bool:=on (kL b i.l ) fun f=>match f with|Sum.inl _=>(on (()) fun _=>false)|Sum.inr g=>(g)
def wI (f:(Sl Bs)) (b:Bs):Option Bool:=some (jU f b)
theorem wJ (a0:(Sl Bs)) (b:Bs):wI a0 b=some (jU a0 b):=rfl
theorem wK {g:Sl Bs}{i:Bs}{w0:Option Nat}{r:Bool}(b:wI g i=some r) (H:ak) :AC Tryz.prog 90 [.d (Sl.d 1 aI w0 g),.d (.str i)] H fun v h'=>v=.a (.d (.bool r))/\h'=H:=by
 unfold wI jU at b;refine AC.oW 18 [.tmp 4] Tryz.call90 Tryz.func90 ?_;refine af (S As (nil ?_));refine aP kN (fun(z:Unit)=>[]) (fun z=>H) (fun z=>some (false)=some r) ?_ ?_
 ·intro F u;refine af (S As (nil ?_));refine block ?_;obtain⟨k,m,b⟩:=dU b;refine bp (TA 0 (TA 1 kN)) (fun(z:Nat)=>[(5,.a (.d (.int .i64 ((z:Nat):Int))))]) (fun z=>H) (fun z=>g.l.length-z) (fun z=>k (kL i (g.l.drop z) )=some r) 0 b wA ?_;rintro o b G w;try dsimp only at b
  refine ax fun x p=>?_;refine af (S Mv (S Mv ?_));refine sLen (f:=aI) (s:=g) (TK rfl) rfl rfl rfl rfl fun I=>?_;refine S BI (nil ?_);refine ah.bK (fun l=>k (kL i l )=some r) b rfl (fun J q j b=>?_) (fun j b=>?_)
  ·rw [kL] at b;try dsimp only at j
   have K:=oD j;refine sk p ?_;clear p x;refine ax fun y t=>?_;refine block ?_;refine af (S Mv (S Mv ?_));obtain⟨L,B,b⟩:=vP q b;refine S (ix aI o B) (S Ld (S Mv (S BS (nil ?_))));refine cP b (fun C b=>?_) (fun C b=>?_)
   ·refine af (S As (nil ?_));refine ah.ret ?_;repeat (first|refine bE ?_|refine bF ?_)
    have b:=ku m b;obtain rfl:=oJ b;refine bn.bG H rfl ⟨rfl,rfl⟩ ?_;exact(fun _ _ h=>h)
   refine sk t ?_;clear t y;refine region ?_;refine S Mv ?_;refine SI ?_;refine S As (nil ?_);exact w _ (o+1) wA b (dl q)
  rw [kL] at b;have b:=ku m b;try dsimp only at b
  refine ah.exit ?_;obtain⟨M,E,b⟩:=dU b;have b:=ku E b;exact u _ () wA b
 rintro _ b;try dsimp only at b
 refine af (S As (nil ?_));exact rt b
def jq (f:(Sl Int)):List Int->Nat->Option (Unit ⊕ Bool)
 | [],b=>some (Sum.inl ())
 | g::i,b=>on (g) fun j=>(f.l[b]?).bind fun k=>bif (!decide (j=k)) then(some (Sum.inr false)) else(jq f (i) (b+1) )
def nQ (f:(Sl Int)) (b:(Sl Int)):Option Bool:=bif (!decide (((f.l.length:Nat):Int)=((b.l.length:Nat):Int))) then(some false) else(Option.bind (jq b f.l 0 ) fun g=>match g with|Sum.inl _=>(on (()) fun _=>some true)|Sum.inr i=>(some i))
def wL (f:(Sl Int)) (b:(Sl Int)):Option Bool:=nQ f b
theorem IQ (a0:(Sl Int)) (b:(Sl Int)):wL a0 b=nQ a0 b:=rfl
theorem IR {g i:Sl Int}{w0 w:Option Nat}{r:Bool}(b:wL g i=some r) (H:ak) :AC Tryz.prog 80 [.d (Sl.d 1 (bJ .i64) w0 g),.d (Sl.d 1 (bJ .i64) w i)] H fun v h'=>v=.a (.d (.bool r))/\h'=H:=by
 unfold wL nQ at b;refine AC.oW 26 [.tmp 4] Tryz.call80 Tryz.func80 ?_;refine af (S As (nil ?_));refine ax fun x m=>?_;refine af (S Mv ?_);refine sLen (f:=(bJ .i64)) (s:=g) (TK rfl) rfl rfl rfl rfl fun L=>?_;refine S Mv ?_;refine sLen (f:=(bJ .i64)) (s:=i) (TK rfl) rfl rfl rfl rfl fun M=>?_;refine S BI (nil ?_);refine cE b (fun y b=>?_) (fun y b=>?_)
 ·refine af (S As (nil ?_));exact rt b
 refine sk m ?_;clear m x;refine aP kN (fun(z:Unit)=>[]) (fun z=>H) (fun z=>(some true)=some r) ?_ ?_
 ·intro N B;refine af (S As (nil ?_));refine block ?_;obtain⟨o,p,b⟩:=bY b;refine bp (TA 0 (TA 1 kN)) (fun(z:Nat)=>[(5,.a (.d (.int .i64 ((z:Nat):Int))))]) (fun z=>H) (fun z=>g.l.length-z) (fun z=>Option.bind (jq i (g.l.drop z) z ) o=some r) 0 b wA ?_;rintro j b O C;try dsimp only at b
  refine ax fun E q=>?_;refine af (S Mv (S Mv ?_));refine sLen (f:=(bJ .i64)) (s:=g) (TK rfl) rfl rfl rfl rfl fun P=>?_;refine S BI (nil ?_);refine ah.bK (fun l=>Option.bind (jq i l j ) o=some r) b rfl (fun Q t k b=>?_) (fun k b=>?_)
  ·rw [jq] at b;try dsimp only at k
   have R:=oD k;refine sk q ?_;clear q E;refine ax fun F u=>?_;refine block ?_;refine ah.b5 (Sd Mv (Sd Mv ?_));obtain⟨U,G,b⟩:=vO t b;refine Sd (ix (bJ .i64) j G) ?_;refine Sd Ld (Sd Mv (Sd Mv ?_));obtain⟨W,I,b⟩:=qO rfl b;refine Sd (ix (bJ .i64) j I) ?_;refine Sd Ld (Sd BI ?_);refine au.nil (by decide +kernel) ?_;refine cO b (fun J b=>?_) (fun J b=>?_)
   ·refine af (S As (nil ?_));refine ah.ret ?_;repeat (first|refine bE ?_|refine bF ?_)
    have b:=ku p b;obtain rfl:=oJ b;refine bn.bG H rfl ⟨rfl,rfl⟩ ?_;exact(fun _ _ h=>h)
   refine sk u ?_;clear u F;refine region ?_;refine S Mv ?_;refine SI ?_;refine S As (nil ?_);exact C _ (j+1) wA b (dl t)
  rw [jq] at b;have b:=ku p b;try dsimp only at b
  refine ah.exit ?_;obtain⟨X,K,b⟩:=bT b;have b:=ku K b;exact B _ () wA b
 rintro _ b;try dsimp only at b
 refine af (S As (nil ?_));exact rt b
def jV (f:aG) (b:aG):Option Bool:=aU (((f.aa==b.aa))) (nQ f.aK b.aK) false fun g=>some (((f.aa==b.aa))&&g)
def wM (f:aG) (b:aG):Option Bool:=jV f b
theorem wN (a0:aG) (b:aG):wM a0 b=jV a0 b:=rfl
theorem wO {g f:aG}{r:Bool}(b:wM g f=some r) (H:ak) :AC Tryz.prog 46 [.agg (aG.c g),.agg (aG.c f)] H fun v h'=>v=.a (.d (.bool r))/\h'=H:=by
 unfold wM jV at b;refine AC.oW 17 [.tmp 4] Tryz.call46 Tryz.func46 ?_;refine af (S BX (S BX (S As (nil ?_))));refine af (S Fv (S Ld (S Fv (S Ld (S BS (S Mv (G0 Fv ?_)))))));refine G1 11 rfl Ld ?_;refine G0 Fv ?_;refine G1 13 rfl Ld ?_;obtain⟨j,i,b⟩:=dR (IQ _ _) b;refine fu 12 14 rfl rfl rfl rfl rfl rfl (fun hC=>IR (i hC)) ?_;refine S PA (S As (nil ?_));exact rt b
end Go.Proofs
