import Derived.Test.YtbghdiaepdaaeaaGreatDoorE3
import Derived.Test.YtbghdiaepdaaeaaGreatDoorTab
set_option maxRecDepth 100000
set_option maxHeartbeats 2000000
set_option linter.unusedVariables false
set_option linter.unusedSimpArgs false
namespace Go.Proofs
open Go Go.Ab
inductive aa where
 | mk (an:Int) (aV:Int) (aR:Bs) (Ye:Bool) (Yf:List aa) (aF:(Sl Bs))
def aa.an:aa->Int|.mk x _ _ _ _ _=>x
def aa.aV:aa->Int|.mk _ x _ _ _ _=>x
def aa.aR:aa->Bs|.mk _ _ x _ _ _=>x
def aa.av:aa->(Sl aa)|.mk _ _ _ nl l _=>⟨nl,l⟩
def aa.aF:aa->(Sl Bs)|.mk _ _ _ _ _ x=>x
noncomputable def aa.GD:aa->D:=@aa.rec (fun _=>D) (fun _=>List (List D)) (fun _ _ _ nl _ _ b=>.slice 5 none nl b) [] (fun v _ b f=>((bp .i64) v.an++(bp .i64) v.aV++aP v.aR++[b]++(fun s=>[Sl.d 1 aP none s]) v.aF)::f)
noncomputable def aa.c (v:aa):List D:=(bp .i64) v.an++(bp .i64) v.aV++aP v.aR++[v.GD]++(fun s=>[Sl.d 1 aP none s]) v.aF
theorem aa.dm (v:aa):v.GD=Sl.d 5 aa.c none v.av:=by
 cases v with
 | mk f g i nl l j =>
  show D.slice 5 none nl _=D.slice 5 none nl (l.map aa.c)
  congr 1
  induction l with
  | nil=>rfl
  | cons a r b=>exact congrArg (aa.c a::·) b
noncomputable def aa.cu (v:aa):List D:=(bp .i64) v.an++(bp .i64) v.aV++aP v.aR++[Sl.d 5 aa.c none v.av]++(fun s=>[Sl.d 1 aP none s]) v.aF
theorem aa.fM (v:aa):v.c=v.cu:=by unfold aa.c aa.cu; rw [aa.dm]
def aa.zero:aa:=.mk (0:Int) (0:Int) ([]:Bs) true [] (Sl.nil:Sl Bs)
structure aD where
 ai:Bs
 eU:aa
noncomputable def aD.c (x:aD):List D:=aP x.ai++aa.c x.eU
def aD.zero:aD:=⟨([]:Bs),aa.zero⟩
structure aL where
 ai:Bs
 aO:(Sl aD)
noncomputable def aL.c (x:aL):List D:=[.str x.ai,Sl.d 6 aD.c none x.aO]
def aL.zero:aL:=⟨([]:Bs),(Sl.nil:Sl aD)⟩
structure az where
 ai:Bs
 aK:(Sl Int)
noncomputable def az.c (x:az):List D:=[.str x.ai,Sl.d 1 (bp .i64) none x.aK]
def az.zero:az:=⟨([]:Bs),(Sl.nil:Sl Int)⟩
structure Z8 where
 ai:Bs
 aJ:az
 c_:Bool
 dy:aa
 ck:(Sl aL)
noncomputable def Z8.c (x:Z8):List D:=aP x.ai++az.c x.aJ++qg x.c_++aa.c x.dy++(fun s=>[Sl.d 2 aL.c none s]) x.ck
def Z8.zero:Z8:=⟨([]:Bs),az.zero,false,aa.zero,(Sl.nil:Sl aL)⟩
structure Z6 where
 ai:Bs
 aO:(Sl Z8)
 aJ:az
 ck:(Sl aL)
noncomputable def Z6.c (x:Z6):List D:=aP x.ai++(fun s=>[Sl.d 10 Z8.c none s]) x.aO++az.c x.aJ++(fun s=>[Sl.d 2 aL.c none s]) x.ck
def Z6.zero:Z6:=⟨([]:Bs),(Sl.nil:Sl Z8),az.zero,(Sl.nil:Sl aL)⟩
structure Z9 where
 ai:Bs
 ck:(Sl aL)
noncomputable def Z9.c (x:Z9):List D:=[.str x.ai,Sl.d 2 aL.c none x.ck]
def Z9.zero:Z9:=⟨([]:Bs),(Sl.nil:Sl aL)⟩
structure ax where
 an:Int
 ai:Bs
 bU:(Sl Bs)
 ck:(Sl aL)
 bC:(Sl Z6)
 bI:(Sl Z9)
 bl:(Sl Z8)
noncomputable def ax.c (x:ax):List D:=[.int .i64 x.an,.str x.ai,Sl.d 1 aP none x.bU,Sl.d 2 aL.c none x.ck,Sl.d 5 Z6.c none x.bC,Sl.d 2 Z9.c none x.bI,Sl.d 10 Z8.c none x.bl]
def ax.zero:ax:=⟨(0:Int),([]:Bs),(Sl.nil:Sl Bs),(Sl.nil:Sl aL),(Sl.nil:Sl Z6),(Sl.nil:Sl Z9),(Sl.nil:Sl Z8)⟩
structure aq where
 aA:(Sl ax)
noncomputable def aq.c (x:aq):List D:=[Sl.d 7 ax.c none x.aA]
inductive aj where
 | mk (bF:Bs) (bR:Bs) (ai:Bs) (aO:(Sl aD)) (aJ:az) (eO:Bs) (dR:Int) (Yg:Bool) (Yh:List aj)
def aj.bF:aj->Bs|.mk x _ _ _ _ _ _ _ _=>x
def aj.bR:aj->Bs|.mk _ x _ _ _ _ _ _ _=>x
def aj.ai:aj->Bs|.mk _ _ x _ _ _ _ _ _=>x
def aj.aO:aj->(Sl aD)|.mk _ _ _ x _ _ _ _ _=>x
def aj.aJ:aj->az|.mk _ _ _ _ x _ _ _ _=>x
def aj.eO:aj->Bs|.mk _ _ _ _ _ x _ _ _=>x
def aj.dR:aj->Int|.mk _ _ _ _ _ _ x _ _=>x
def aj.bE:aj->(Sl aj)|.mk _ _ _ _ _ _ _ nl l=>⟨nl,l⟩
noncomputable def aj.GF:aj->D:=@aj.rec (fun _=>D) (fun _=>List (List D)) (fun _ _ _ _ _ _ _ nl _ b=>.slice 9 none nl b) [] (fun v _ b f=>(aP v.bF++aP v.bR++aP v.ai++(fun s=>[Sl.d 6 aD.c none s]) v.aO++az.c v.aJ++aP v.eO++(bp .i64) v.dR++[b])::f)
noncomputable def aj.c (v:aj):List D:=aP v.bF++aP v.bR++aP v.ai++(fun s=>[Sl.d 6 aD.c none s]) v.aO++az.c v.aJ++aP v.eO++(bp .i64) v.dR++[v.GF]
theorem aj.gG (v:aj):v.GF=Sl.d 9 aj.c none v.bE:=by
 cases v with
 | mk f g i j k m o nl l =>
  show D.slice 9 none nl _=D.slice 9 none nl (l.map aj.c)
  congr 1
  induction l with
  | nil=>rfl
  | cons a r b=>exact congrArg (aj.c a::·) b
noncomputable def aj.cu (v:aj):List D:=aP v.bF++aP v.bR++aP v.ai++(fun s=>[Sl.d 6 aD.c none s]) v.aO++az.c v.aJ++aP v.eO++(bp .i64) v.dR++[Sl.d 9 aj.c none v.bE]
theorem aj.fM (v:aj):v.c=v.cu:=by unfold aj.c aj.cu; rw [aj.gG]
def aj.zero:aj:=.mk ([]:Bs) ([]:Bs) ([]:Bs) (Sl.nil:Sl aD) az.zero ([]:Bs) (0:Int) true []
structure cK where
 an:Int
 bE:(Sl aj)
noncomputable def cK.c (x:cK):List D:=[.int .i64 x.an,Sl.d 9 aj.c none x.bE]
structure iy where
 ai:Bs
 aJ:az
 c_:Bool
 dy:aa
noncomputable def iy.c (x:iy):List D:=aP x.ai++az.c x.aJ++qg x.c_++aa.c x.dy
inductive a_ where
 | mk (an:Int) (gv:Bs) (ai:Bs) (bR:Bs) (aO:(Sl aD)) (ck:(Sl aL)) (Yi:Bool) (Yj:List a_)
def a_.an:a_->Int|.mk x _ _ _ _ _ _ _=>x
def a_.gv:a_->Bs|.mk _ x _ _ _ _ _ _=>x
def a_.ai:a_->Bs|.mk _ _ x _ _ _ _ _=>x
def a_.bR:a_->Bs|.mk _ _ _ x _ _ _ _=>x
def a_.aO:a_->(Sl aD)|.mk _ _ _ _ x _ _ _=>x
def a_.ck:a_->(Sl aL)|.mk _ _ _ _ _ x _ _=>x
def a_.fN:a_->(Sl a_)|.mk _ _ _ _ _ _ nl l=>⟨nl,l⟩
noncomputable def a_.GG:a_->D:=@a_.rec (fun _=>D) (fun _=>List (List D)) (fun _ _ _ _ _ _ nl _ b=>.slice 7 none nl b) [] (fun v _ b f=>((bp .i64) v.an++aP v.gv++aP v.ai++aP v.bR++(fun s=>[Sl.d 6 aD.c none s]) v.aO++(fun s=>[Sl.d 2 aL.c none s]) v.ck++[b])::f)
noncomputable def a_.c (v:a_):List D:=(bp .i64) v.an++aP v.gv++aP v.ai++aP v.bR++(fun s=>[Sl.d 6 aD.c none s]) v.aO++(fun s=>[Sl.d 2 aL.c none s]) v.ck++[v.GG]
theorem a_.wU (v:a_):v.GG=Sl.d 7 a_.c none v.fN:=by
 cases v with
 | mk f g i j k m nl l =>
  show D.slice 7 none nl _=D.slice 7 none nl (l.map a_.c)
  congr 1
  induction l with
  | nil=>rfl
  | cons a r b=>exact congrArg (a_.c a::·) b
noncomputable def a_.cu (v:a_):List D:=(bp .i64) v.an++aP v.gv++aP v.ai++aP v.bR++(fun s=>[Sl.d 6 aD.c none s]) v.aO++(fun s=>[Sl.d 2 aL.c none s]) v.ck++[Sl.d 7 a_.c none v.fN]
theorem a_.fM (v:a_):v.c=v.cu:=by unfold a_.c a_.cu; rw [a_.wU]
def a_.zero:a_:=.mk (0:Int) ([]:Bs) ([]:Bs) ([]:Bs) (Sl.nil:Sl aD) (Sl.nil:Sl aL) true []
structure fZ where
 an:Int
 ai:Bs
 Ag:(Sl iy)
 fN:(Sl a_)
noncomputable def fZ.c (x:fZ):List D:=[.int .i64 x.an,.str x.ai,Sl.d 9 iy.c none x.Ag,Sl.d 7 a_.c none x.fN]
structure Z7 where
 ai:Bs
 bR:Bs
 fN:(Sl a_)
noncomputable def Z7.c (x:Z7):List D:=[.str x.ai,.str x.bR,Sl.d 7 a_.c none x.fN]
structure dK where
 iQ:(Sl fZ)
 ng:(Sl Z7)
noncomputable def dK.c (x:dK):List D:=[Sl.d 4 fZ.c none x.iQ,Sl.d 3 Z7.c none x.ng]
def dK.zero:dK:=⟨(Sl.nil:Sl fZ),(Sl.nil:Sl Z7)⟩
structure Z5 where
 OR:Int
 OS:Bs
def Z5.c (x:Z5):List D:=[.int .i64 x.OR,.str x.OS]
structure Z3 where
 Fd:aq
 Fq:dK
 dD:aa
 Fn:Int
noncomputable def Z3.c (x:Z3):List D:=aq.c x.Fd++dK.c x.Fq++aa.c x.dD++(bp .i64) x.Fn
structure Z1 where
 bN:a_
 eO:Bs
noncomputable def Z1.c (x:Z1):List D:=a_.c x.bN++aP x.eO
structure Z2 where
 bF:Bs
 jS:(Sl Z1)
noncomputable def Z2.c (x:Z2):List D:=[.str x.bF,Sl.d 8 Z1.c none x.jS]
structure Z4 where
 Fd:aq
 dD:aa
 f_:Bool
 ff:Int
 cQ:Int
noncomputable def Z4.c (x:Z4):List D:=aq.c x.Fd++aa.c x.dD++qg x.f_++(bp .i64) x.ff++(bp .i64) x.cQ
structure Z0 where
 Fd:aq
 dD:aa
 gY:Bool
 gQ:Int
noncomputable def Z0.c (x:Z0):List D:=aq.c x.Fd++aa.c x.dD++qg x.gY++(bp .i64) x.gQ
end Go.Proofs
namespace Go.Proofs
open Go Go.Ab Go.RowKit
section
variable {H:Type}{B:DataW H->Nat}(hB:uD B)
noncomputable def aa.sz:aa->Nat:=@aa.rec (fun _=>Nat) (fun _=>Nat) (fun f g i nl l j b=>(fun _=>1) f+((fun _=>1) g+(Bs.sz i+((1+b)+((Sl.sz Bs.sz) j+(0)))))) 0 (fun _ _ b k=>b+k)
noncomputable def aa.uF:List aa->Nat:=@aa.rec_1 (fun _=>Nat) (fun _=>Nat) (fun f g i nl l j b=>(fun _=>1) f+((fun _=>1) g+(Bs.sz i+((1+b)+((Sl.sz Bs.sz) j+(0)))))) 0 (fun _ _ b k=>b+k)
theorem aa.Ah (l:List aa):aa.uF l=(l.map aa.sz).sum:=by
 induction l with
 | nil=>rfl
 | cons a r b=>exact congrArg (aa.sz a+·) b
theorem aa.uG (x:aa):x.sz=(fun _=>1) x.an+((fun _=>1) x.aV+(Bs.sz x.aR+((Sl.sz aa.sz) x.av+((Sl.sz Bs.sz) x.aF+(0))))):=by
 cases x with
 | mk b f g nl l i =>
  show (fun _=>1) b+((fun _=>1) f+(Bs.sz g+((1+aa.uF l)+((Sl.sz Bs.sz) i+(0)))))=_;rw [aa.Ah]; rfl
def aa.wf:aa->Prop:=@aa.rec (fun _=>Prop) (fun _=>Prop) (fun f g i nl l j b=>i64 f/\(i64 g/\((fun _=>True) i/\(((nl=true->l=[])/\l.length<=cL/\b)/\((Sl.wf (fun _=>True)) j/\(True)))))) True (fun _ _ b k=>b/\k)
def aa.qt:List aa->Prop:=@aa.rec_1 (fun _=>Prop) (fun _=>Prop) (fun f g i nl l j b=>i64 f/\(i64 g/\((fun _=>True) i/\(((nl=true->l=[])/\l.length<=cL/\b)/\((Sl.wf (fun _=>True)) j/\(True)))))) True (fun _ _ b k=>b/\k)
theorem aa.Ai (l:List aa):aa.qt l↔∀x∈l,aa.wf x:=by
 induction l with
 | nil=>exact⟨fun _ _ h=>(by cases h),fun _=>trivial⟩
 | cons a r b =>
  show (aa.wf a/\aa.qt r)↔_;rw [b]; simp
theorem aa.lQ (x:aa):x.wf↔i64 x.an/\(i64 x.aV/\((fun _=>True) x.aR/\((Sl.wf aa.wf) x.av/\((Sl.wf (fun _=>True)) x.aF/\(True))))):=by
 cases x with
 | mk b f g nl l i =>
  show (i64 b/\(i64 f/\((fun _=>True) g/\(((nl=true->l=[])/\l.length<=cL/\aa.qt l)/\((Sl.wf (fun _=>True)) i/\(True))))))↔_;rw [aa.Ai]; exact Iff.rfl
include hB in
theorem GH:∀N,di Tryz.prog B N 58 aa.c aa.sz aa.wf:=by
 have key:∀N M,M<=N->di Tryz.prog B M 58 aa.c aa.sz aa.wf:=by
  intro N;induction N with
  | zero=>intro M f; rw [Nat.le_zero.1 f]; exact .zero
  | succ N g =>
   intro M f;cases M with
   | zero=>exact .zero
   | succ b =>
    have hit:di Tryz.prog B b 55 (fun s:Sl aa=>[Sl.d 5 aa.c none s]) (Sl.sz aa.sz) (Sl.wf aa.wf):=by
     cases b with
     | zero=>exact .zero
     | succ M=>exact dG.Af hB (Tryz.bn 55 _ rfl) rfl (Tryz.bn 58 _ rfl) rfl (by decide) (fun _=>rfl) (g M (by omega))
    refine di.struct hB (Tryz.bn 58 _ rfl) rfl (cC.cons (n:=5) (o:=0) (o':=1) (Tryz.bn 3 _ rfl) rfl ((dG.int hB (Tryz.bn 3 _ rfl) rfl) b) (cC.cons (n:=5) (o:=1) (o':=2) (Tryz.bn 3 _ rfl) rfl ((dG.int hB (Tryz.bn 3 _ rfl) rfl) b) (cC.cons (n:=5) (o:=2) (o':=3) (Tryz.bn 9 _ rfl) rfl ((dG.str hB (Tryz.bn 9 _ rfl) rfl) b) (cC.cons (n:=5) (o:=3) (o':=4) (Tryz.bn 55 _ rfl) rfl hit (cC.cons (n:=5) (o:=4) (o':=5) (Tryz.bn 56 _ rfl) rfl ((dG.slice hB (Tryz.bn 56 _ rfl) rfl (Tryz.bn 9 _ rfl) rfl (by decide) (fun _=>rfl) (dG.str hB (Tryz.bn 9 _ rfl) rfl)) b) (cC.nil (n:=5))))))) (fun a=>aa.mk a.1 a.2.1 a.2.2.1 a.2.2.2.1.nl a.2.2.2.1.l a.2.2.2.2.1) (fun a=>?_) (fun a=>by rw [aa.uG]; exact Nat.le_refl _) (fun a h=>by rw [aa.lQ]; exact h)
    unfold aa.c;rw [aa.dm];rfl
 exact fun N=>key N N (Nat.le_refl _)
noncomputable def aD.sz (x:aD):Nat:=Bs.sz x.ai+(aa.sz x.eU+(0))
def aD.wf (x:aD):Prop:=(fun _=>True) x.ai/\(aa.wf x.eU/\(True))
include hB in
theorem GI:∀N,di Tryz.prog B N 78 aD.c aD.sz aD.wf:=nc.struct hB (Tryz.bn 78 _ rfl) rfl (fun b=>(cC.cons (n:=6) (o:=0) (o':=1) (Tryz.bn 9 _ rfl) rfl ((dG.str hB (Tryz.bn 9 _ rfl) rfl) b) (cC.cons (n:=6) (o:=1) (o':=6) (Tryz.bn 58 _ rfl) rfl ((GH hB) b) (cC.nil (n:=6))))) (fun a=>(⟨a.1,a.2.1⟩:aD)) (fun _=>rfl) (fun _=>Nat.le_refl _) (fun _ h=>h)
noncomputable def aL.sz (x:aL):Nat:=Bs.sz x.ai+((Sl.sz aD.sz) x.aO+(0))
def aL.wf (x:aL):Prop:=(fun _=>True) x.ai/\((Sl.wf aD.wf) x.aO/\(True))
include hB in
theorem wV:∀N,di Tryz.prog B N 97 aL.c aL.sz aL.wf:=nc.struct hB (Tryz.bn 97 _ rfl) rfl (fun b=>(cC.cons (n:=2) (o:=0) (o':=1) (Tryz.bn 9 _ rfl) rfl ((dG.str hB (Tryz.bn 9 _ rfl) rfl) b) (cC.cons (n:=2) (o:=1) (o':=2) (Tryz.bn 47 _ rfl) rfl ((dG.slice hB (Tryz.bn 47 _ rfl) rfl (Tryz.bn 78 _ rfl) rfl (by decide) (fun _=>rfl) (GI hB)) b) (cC.nil (n:=2))))) (fun a=>(⟨a.1,a.2.1⟩:aL)) (fun _=>rfl) (fun _=>Nat.le_refl _) (fun _ h=>h)
noncomputable def az.sz (x:az):Nat:=Bs.sz x.ai+((Sl.sz (fun _=>1)) x.aK+(0))
def az.wf (x:az):Prop:=(fun _=>True) x.ai/\((Sl.wf i64) x.aK/\(True))
include hB in
theorem Aj:∀N,di Tryz.prog B N 50 az.c az.sz az.wf:=nc.struct hB (Tryz.bn 50 _ rfl) rfl (fun b=>(cC.cons (n:=2) (o:=0) (o':=1) (Tryz.bn 9 _ rfl) rfl ((dG.str hB (Tryz.bn 9 _ rfl) rfl) b) (cC.cons (n:=2) (o:=1) (o':=2) (Tryz.bn 48 _ rfl) rfl ((dG.slice hB (Tryz.bn 48 _ rfl) rfl (Tryz.bn 3 _ rfl) rfl (by decide) (fun _=>rfl) (dG.int hB (Tryz.bn 3 _ rfl) rfl)) b) (cC.nil (n:=2))))) (fun a=>(⟨a.1,a.2.1⟩:az)) (fun _=>rfl) (fun _=>Nat.le_refl _) (fun _ h=>h)
noncomputable def Z8.sz (x:Z8):Nat:=Bs.sz x.ai+(az.sz x.aJ+((fun _=>1) x.c_+(aa.sz x.dy+((Sl.sz aL.sz) x.ck+(0)))))
def Z8.wf (x:Z8):Prop:=(fun _=>True) x.ai/\(az.wf x.aJ/\((fun _=>True) x.c_/\(aa.wf x.dy/\((Sl.wf aL.wf) x.ck/\(True)))))
include hB in
theorem GJ:∀N,di Tryz.prog B N 148 Z8.c Z8.sz Z8.wf:=nc.struct hB (Tryz.bn 148 _ rfl) rfl (fun b=>(cC.cons (n:=10) (o:=0) (o':=1) (Tryz.bn 9 _ rfl) rfl ((dG.str hB (Tryz.bn 9 _ rfl) rfl) b) (cC.cons (n:=10) (o:=1) (o':=3) (Tryz.bn 50 _ rfl) rfl ((Aj hB) b) (cC.cons (n:=10) (o:=3) (o':=4) (Tryz.bn 4 _ rfl) rfl ((dG.bool hB (Tryz.bn 4 _ rfl) rfl) b) (cC.cons (n:=10) (o:=4) (o':=9) (Tryz.bn 58 _ rfl) rfl ((GH hB) b) (cC.cons (n:=10) (o:=9) (o':=10) (Tryz.bn 63 _ rfl) rfl ((dG.slice hB (Tryz.bn 63 _ rfl) rfl (Tryz.bn 97 _ rfl) rfl (by decide) (fun _=>rfl) (wV hB)) b) (cC.nil (n:=10)))))))) (fun a=>(⟨a.1,a.2.1,a.2.2.1,a.2.2.2.1,a.2.2.2.2.1⟩:Z8)) (fun _=>rfl) (fun _=>Nat.le_refl _) (fun _ h=>h)
noncomputable def Z6.sz (x:Z6):Nat:=Bs.sz x.ai+((Sl.sz Z8.sz) x.aO+(az.sz x.aJ+((Sl.sz aL.sz) x.ck+(0))))
def Z6.wf (x:Z6):Prop:=(fun _=>True) x.ai/\((Sl.wf Z8.wf) x.aO/\(az.wf x.aJ/\((Sl.wf aL.wf) x.ck/\(True))))
include hB in
theorem OT:∀N,di Tryz.prog B N 104 Z6.c Z6.sz Z6.wf:=nc.struct hB (Tryz.bn 104 _ rfl) rfl (fun b=>(cC.cons (n:=5) (o:=0) (o':=1) (Tryz.bn 9 _ rfl) rfl ((dG.str hB (Tryz.bn 9 _ rfl) rfl) b) (cC.cons (n:=5) (o:=1) (o':=2) (Tryz.bn 66 _ rfl) rfl ((dG.slice hB (Tryz.bn 66 _ rfl) rfl (Tryz.bn 148 _ rfl) rfl (by decide) (fun _=>rfl) (GJ hB)) b) (cC.cons (n:=5) (o:=2) (o':=4) (Tryz.bn 50 _ rfl) rfl ((Aj hB) b) (cC.cons (n:=5) (o:=4) (o':=5) (Tryz.bn 63 _ rfl) rfl ((dG.slice hB (Tryz.bn 63 _ rfl) rfl (Tryz.bn 97 _ rfl) rfl (by decide) (fun _=>rfl) (wV hB)) b) (cC.nil (n:=5))))))) (fun a=>(⟨a.1,a.2.1,a.2.2.1,a.2.2.2.1⟩:Z6)) (fun _=>rfl) (fun _=>Nat.le_refl _) (fun _ h=>h)
noncomputable def Z9.sz (x:Z9):Nat:=Bs.sz x.ai+((Sl.sz aL.sz) x.ck+(0))
def Z9.wf (x:Z9):Prop:=(fun _=>True) x.ai/\((Sl.wf aL.wf) x.ck/\(True))
include hB in
theorem OU:∀N,di Tryz.prog B N 106 Z9.c Z9.sz Z9.wf:=nc.struct hB (Tryz.bn 106 _ rfl) rfl (fun b=>(cC.cons (n:=2) (o:=0) (o':=1) (Tryz.bn 9 _ rfl) rfl ((dG.str hB (Tryz.bn 9 _ rfl) rfl) b) (cC.cons (n:=2) (o:=1) (o':=2) (Tryz.bn 63 _ rfl) rfl ((dG.slice hB (Tryz.bn 63 _ rfl) rfl (Tryz.bn 97 _ rfl) rfl (by decide) (fun _=>rfl) (wV hB)) b) (cC.nil (n:=2))))) (fun a=>(⟨a.1,a.2.1⟩:Z9)) (fun _=>rfl) (fun _=>Nat.le_refl _) (fun _ h=>h)
noncomputable def ax.sz (x:ax):Nat:=(fun _=>1) x.an+(Bs.sz x.ai+((Sl.sz Bs.sz) x.bU+((Sl.sz aL.sz) x.ck+((Sl.sz Z6.sz) x.bC+((Sl.sz Z9.sz) x.bI+((Sl.sz Z8.sz) x.bl+(0)))))))
def ax.wf (x:ax):Prop:=i64 x.an/\((fun _=>True) x.ai/\((Sl.wf (fun _=>True)) x.bU/\((Sl.wf aL.wf) x.ck/\((Sl.wf Z6.wf) x.bC/\((Sl.wf Z9.wf) x.bI/\((Sl.wf Z8.wf) x.bl/\(True)))))))
include hB in
theorem OV:∀N,di Tryz.prog B N 68 ax.c ax.sz ax.wf:=nc.struct hB (Tryz.bn 68 _ rfl) rfl (fun b=>(cC.cons (n:=7) (o:=0) (o':=1) (Tryz.bn 3 _ rfl) rfl ((dG.int hB (Tryz.bn 3 _ rfl) rfl) b) (cC.cons (n:=7) (o:=1) (o':=2) (Tryz.bn 9 _ rfl) rfl ((dG.str hB (Tryz.bn 9 _ rfl) rfl) b) (cC.cons (n:=7) (o:=2) (o':=3) (Tryz.bn 56 _ rfl) rfl ((dG.slice hB (Tryz.bn 56 _ rfl) rfl (Tryz.bn 9 _ rfl) rfl (by decide) (fun _=>rfl) (dG.str hB (Tryz.bn 9 _ rfl) rfl)) b) (cC.cons (n:=7) (o:=3) (o':=4) (Tryz.bn 63 _ rfl) rfl ((dG.slice hB (Tryz.bn 63 _ rfl) rfl (Tryz.bn 97 _ rfl) rfl (by decide) (fun _=>rfl) (wV hB)) b) (cC.cons (n:=7) (o:=4) (o':=5) (Tryz.bn 64 _ rfl) rfl ((dG.slice hB (Tryz.bn 64 _ rfl) rfl (Tryz.bn 104 _ rfl) rfl (by decide) (fun _=>rfl) (OT hB)) b) (cC.cons (n:=7) (o:=5) (o':=6) (Tryz.bn 65 _ rfl) rfl ((dG.slice hB (Tryz.bn 65 _ rfl) rfl (Tryz.bn 106 _ rfl) rfl (by decide) (fun _=>rfl) (OU hB)) b) (cC.cons (n:=7) (o:=6) (o':=7) (Tryz.bn 66 _ rfl) rfl ((dG.slice hB (Tryz.bn 66 _ rfl) rfl (Tryz.bn 148 _ rfl) rfl (by decide) (fun _=>rfl) (GJ hB)) b) (cC.nil (n:=7)))))))))) (fun a=>(⟨a.1,a.2.1,a.2.2.1,a.2.2.2.1,a.2.2.2.2.1,a.2.2.2.2.2.1,a.2.2.2.2.2.2.1⟩:ax)) (fun _=>rfl) (fun _=>Nat.le_refl _) (fun _ h=>h)
noncomputable def aq.sz (x:aq):Nat:=(Sl.sz ax.sz) x.aA+(0)
def aq.wf (x:aq):Prop:=(Sl.wf ax.wf) x.aA/\(True)
include hB in
theorem OW:∀N,di Tryz.prog B N 24 aq.c aq.sz aq.wf:=nc.struct hB (Tryz.bn 24 _ rfl) rfl (fun b=>(cC.cons (n:=1) (o:=0) (o':=1) (Tryz.bn 22 _ rfl) rfl ((dG.slice hB (Tryz.bn 22 _ rfl) rfl (Tryz.bn 68 _ rfl) rfl (by decide) (fun _=>rfl) (OV hB)) b) (cC.nil (n:=1)))) (fun a=>(⟨a.1⟩:aq)) (fun _=>rfl) (fun _=>Nat.le_refl _) (fun _ h=>h)
noncomputable def aj.sz:aj->Nat:=@aj.rec (fun _=>Nat) (fun _=>Nat) (fun f g i j k m o nl l b=>Bs.sz f+(Bs.sz g+(Bs.sz i+((Sl.sz aD.sz) j+(az.sz k+(Bs.sz m+((fun _=>1) o+((1+b)+(0))))))))) 0 (fun _ _ b p=>b+p)
noncomputable def aj.uF:List aj->Nat:=@aj.rec_1 (fun _=>Nat) (fun _=>Nat) (fun f g i j k m o nl l b=>Bs.sz f+(Bs.sz g+(Bs.sz i+((Sl.sz aD.sz) j+(az.sz k+(Bs.sz m+((fun _=>1) o+((1+b)+(0))))))))) 0 (fun _ _ b p=>b+p)
theorem aj.Ah (l:List aj):aj.uF l=(l.map aj.sz).sum:=by
 induction l with
 | nil=>rfl
 | cons a r b=>exact congrArg (aj.sz a+·) b
theorem aj.uG (x:aj):x.sz=Bs.sz x.bF+(Bs.sz x.bR+(Bs.sz x.ai+((Sl.sz aD.sz) x.aO+(az.sz x.aJ+(Bs.sz x.eO+((fun _=>1) x.dR+((Sl.sz aj.sz) x.bE+(0)))))))):=by
 cases x with
 | mk b f g i j k m nl l =>
  show Bs.sz b+(Bs.sz f+(Bs.sz g+((Sl.sz aD.sz) i+(az.sz j+(Bs.sz k+((fun _=>1) m+((1+aj.uF l)+(0))))))))=_;rw [aj.Ah]; rfl
def aj.wf:aj->Prop:=@aj.rec (fun _=>Prop) (fun _=>Prop) (fun f g i j k m o nl l b=>(fun _=>True) f/\((fun _=>True) g/\((fun _=>True) i/\((Sl.wf aD.wf) j/\(az.wf k/\((fun _=>True) m/\(i64 o/\(((nl=true->l=[])/\l.length<=cL/\b)/\(True))))))))) True (fun _ _ b p=>b/\p)
def aj.qt:List aj->Prop:=@aj.rec_1 (fun _=>Prop) (fun _=>Prop) (fun f g i j k m o nl l b=>(fun _=>True) f/\((fun _=>True) g/\((fun _=>True) i/\((Sl.wf aD.wf) j/\(az.wf k/\((fun _=>True) m/\(i64 o/\(((nl=true->l=[])/\l.length<=cL/\b)/\(True))))))))) True (fun _ _ b p=>b/\p)
theorem aj.Ai (l:List aj):aj.qt l↔∀x∈l,aj.wf x:=by
 induction l with
 | nil=>exact⟨fun _ _ h=>(by cases h),fun _=>trivial⟩
 | cons a r b =>
  show (aj.wf a/\aj.qt r)↔_;rw [b]; simp
theorem aj.lQ (x:aj):x.wf↔(fun _=>True) x.bF/\((fun _=>True) x.bR/\((fun _=>True) x.ai/\((Sl.wf aD.wf) x.aO/\(az.wf x.aJ/\((fun _=>True) x.eO/\(i64 x.dR/\((Sl.wf aj.wf) x.bE/\(True)))))))):=by
 cases x with
 | mk b f g i j k m nl l =>
  show ((fun _=>True) b/\((fun _=>True) f/\((fun _=>True) g/\((Sl.wf aD.wf) i/\(az.wf j/\((fun _=>True) k/\(i64 m/\(((nl=true->l=[])/\l.length<=cL/\aj.qt l)/\(True)))))))))↔_;rw [aj.Ai]; exact Iff.rfl
include hB in
theorem OX:∀N,di Tryz.prog B N 52 aj.c aj.sz aj.wf:=by
 have key:∀N M,M<=N->di Tryz.prog B M 52 aj.c aj.sz aj.wf:=by
  intro N;induction N with
  | zero=>intro M f; rw [Nat.le_zero.1 f]; exact .zero
  | succ N g =>
   intro M f;cases M with
   | zero=>exact .zero
   | succ b =>
    have hit:di Tryz.prog B b 25 (fun s:Sl aj=>[Sl.d 9 aj.c none s]) (Sl.sz aj.sz) (Sl.wf aj.wf):=by
     cases b with
     | zero=>exact .zero
     | succ M=>exact dG.Af hB (Tryz.bn 25 _ rfl) rfl (Tryz.bn 52 _ rfl) rfl (by decide) (fun _=>rfl) (g M (by omega))
    refine di.struct hB (Tryz.bn 52 _ rfl) rfl (cC.cons (n:=9) (o:=0) (o':=1) (Tryz.bn 9 _ rfl) rfl ((dG.str hB (Tryz.bn 9 _ rfl) rfl) b) (cC.cons (n:=9) (o:=1) (o':=2) (Tryz.bn 9 _ rfl) rfl ((dG.str hB (Tryz.bn 9 _ rfl) rfl) b) (cC.cons (n:=9) (o:=2) (o':=3) (Tryz.bn 9 _ rfl) rfl ((dG.str hB (Tryz.bn 9 _ rfl) rfl) b) (cC.cons (n:=9) (o:=3) (o':=4) (Tryz.bn 47 _ rfl) rfl ((dG.slice hB (Tryz.bn 47 _ rfl) rfl (Tryz.bn 78 _ rfl) rfl (by decide) (fun _=>rfl) (GI hB)) b) (cC.cons (n:=9) (o:=4) (o':=6) (Tryz.bn 50 _ rfl) rfl ((Aj hB) b) (cC.cons (n:=9) (o:=6) (o':=7) (Tryz.bn 9 _ rfl) rfl ((dG.str hB (Tryz.bn 9 _ rfl) rfl) b) (cC.cons (n:=9) (o:=7) (o':=8) (Tryz.bn 3 _ rfl) rfl ((dG.int hB (Tryz.bn 3 _ rfl) rfl) b) (cC.cons (n:=9) (o:=8) (o':=9) (Tryz.bn 25 _ rfl) rfl hit (cC.nil (n:=9)))))))))) (fun a=>aj.mk a.1 a.2.1 a.2.2.1 a.2.2.2.1 a.2.2.2.2.1 a.2.2.2.2.2.1 a.2.2.2.2.2.2.1 a.2.2.2.2.2.2.2.1.nl a.2.2.2.2.2.2.2.1.l) (fun a=>?_) (fun a=>by rw [aj.uG]; exact Nat.le_refl _) (fun a h=>by rw [aj.lQ]; exact h)
    unfold aj.c;rw [aj.gG];rfl
 exact fun N=>key N N (Nat.le_refl _)
noncomputable def cK.sz (x:cK):Nat:=(fun _=>1) x.an+((Sl.sz aj.sz) x.bE+(0))
def cK.wf (x:cK):Prop:=i64 x.an/\((Sl.wf aj.wf) x.bE/\(True))
include hB in
theorem OY:∀N,di Tryz.prog B N 27 cK.c cK.sz cK.wf:=nc.struct hB (Tryz.bn 27 _ rfl) rfl (fun b=>(cC.cons (n:=2) (o:=0) (o':=1) (Tryz.bn 3 _ rfl) rfl ((dG.int hB (Tryz.bn 3 _ rfl) rfl) b) (cC.cons (n:=2) (o:=1) (o':=2) (Tryz.bn 25 _ rfl) rfl ((dG.slice hB (Tryz.bn 25 _ rfl) rfl (Tryz.bn 52 _ rfl) rfl (by decide) (fun _=>rfl) (OX hB)) b) (cC.nil (n:=2))))) (fun a=>(⟨a.1,a.2.1⟩:cK)) (fun _=>rfl) (fun _=>Nat.le_refl _) (fun _ h=>h)
end
theorem aa.bM (x:aa):x.sz=0+1+1+Bs.sz x.aR+(Sl.sz aa.sz) x.av+(Sl.sz Bs.sz) x.aF:=by
 rw [aa.uG]; try dsimp only
 omega
theorem aa.pos (x:aa):1<=x.sz:=by
 rw [aa.bM]; have:=Bs.gF x.aR; omega
theorem aa.OZ {x:aa}(h:x.wf):i64 x.aV:=((aa.lQ x).1 h).2.1
theorem aa.O3 {x:aa}(h:x.wf):(Sl.wf aa.wf) x.av:=((aa.lQ x).1 h).2.2.2.1
theorem aa.O4 {x:aa}(h:x.wf):(Sl.wf (fun _=>True)) x.aF:=((aa.lQ x).1 h).2.2.2.2.1
theorem aD.bM (x:aD):x.sz=0+Bs.sz x.ai+aa.sz x.eU:=by
 unfold aD.sz; try dsimp only
 omega
theorem aD.pos (x:aD):1<=x.sz:=by
 rw [aD.bM]; have:=Bs.gF x.ai; omega
theorem aD.O5 {x:aD}(h:x.wf):aa.wf x.eU:=h.2.1
theorem aL.bM (x:aL):x.sz=0+Bs.sz x.ai+(Sl.sz aD.sz) x.aO:=by
 unfold aL.sz; try dsimp only
 omega
theorem az.bM (x:az):x.sz=0+Bs.sz x.ai+(Sl.sz (fun _=>1)) x.aK:=by
 unfold az.sz; try dsimp only
 omega
theorem Z8.bM (x:Z8):x.sz=0+Bs.sz x.ai+az.sz x.aJ+1+aa.sz x.dy+(Sl.sz aL.sz) x.ck:=by
 unfold Z8.sz; try dsimp only
 omega
theorem Z8.pos (x:Z8):1<=x.sz:=by
 rw [Z8.bM]; have:=Bs.gF x.ai; omega
theorem Z8.Ak {x:Z8}(h:x.wf):az.wf x.aJ:=h.2.1
theorem Z8.O6 {x:Z8}(h:x.wf):aa.wf x.dy:=h.2.2.2.1
theorem Z6.bM (x:Z6):x.sz=0+Bs.sz x.ai+(Sl.sz Z8.sz) x.aO+az.sz x.aJ+(Sl.sz aL.sz) x.ck:=by
 unfold Z6.sz; try dsimp only
 omega
theorem Z6.Al {x:Z6}(h:x.wf):(Sl.wf Z8.wf) x.aO:=h.2.1
theorem Z9.bM (x:Z9):x.sz=0+Bs.sz x.ai+(Sl.sz aL.sz) x.ck:=by
 unfold Z9.sz; try dsimp only
 omega
theorem Z9.pos (x:Z9):1<=x.sz:=by
 rw [Z9.bM]; have:=Bs.gF x.ai; omega
theorem ax.bM (x:ax):x.sz=0+1+Bs.sz x.ai+(Sl.sz Bs.sz) x.bU+(Sl.sz aL.sz) x.ck+(Sl.sz Z6.sz) x.bC+(Sl.sz Z9.sz) x.bI+(Sl.sz Z8.sz) x.bl:=by
 unfold ax.sz; try dsimp only
 omega
theorem ax.pos (x:ax):1<=x.sz:=by
 rw [ax.bM]; have:=Bs.gF x.ai; omega
theorem ax.O7 {x:ax}(h:x.wf):(Sl.wf Z6.wf) x.bC:=h.2.2.2.2.1
theorem ax.O8 {x:ax}(h:x.wf):(Sl.wf Z8.wf) x.bl:=h.2.2.2.2.2.2.1
theorem aq.bM (x:aq):x.sz=0+(Sl.sz ax.sz) x.aA:=by
 unfold aq.sz; try dsimp only
 omega
theorem aq.GK {x:aq}(h:x.wf):(Sl.wf ax.wf) x.aA:=h.1
theorem aj.bM (x:aj):x.sz=0+Bs.sz x.bF+Bs.sz x.bR+Bs.sz x.ai+(Sl.sz aD.sz) x.aO+az.sz x.aJ+Bs.sz x.eO+1+(Sl.sz aj.sz) x.bE:=by
 rw [aj.uG]; try dsimp only
 omega
theorem aj.pos (x:aj):1<=x.sz:=by
 rw [aj.bM]; have:=Bs.gF x.bF; omega
theorem aj.Al {x:aj}(h:x.wf):(Sl.wf aD.wf) x.aO:=((aj.lQ x).1 h).2.2.2.1
theorem aj.Ak {x:aj}(h:x.wf):az.wf x.aJ:=((aj.lQ x).1 h).2.2.2.2.1
theorem aj.O9 {x:aj}(h:x.wf):(Sl.wf aj.wf) x.bE:=((aj.lQ x).1 h).2.2.2.2.2.2.2.1
end Go.Proofs
namespace Go.Proofs
open Go Go.Ab
open aQ ar ag aS dY
variable {ak:bf}
def nh (f:Int):List Bs->Int->Option (Int)
 | [],b=>some b
 | g::i,b=>bif (decide (b<=f)) then((bG b (1:Int)).bind fun j=>on (g) fun k=>(bG j ((k.length:Nat):Int)).bind fun l=>nh f (i) l) else(some b)
def lR (f:Int) (g:aa->Int->Option Int):List aa->Int->Option (Int)
 | [],b=>some b
 | i::j,b=>bif (decide (b<=f)) then(on (i) fun k=>(g k f).bind fun l=>(bG b l).bind fun m=>lR f g (j) m) else(some b)
def jU:Nat->aa->Int->Option Int
 | 0,_,_=>none
 | n+1,b,f=>(bG (1:Int) ((b.aR.length:Nat):Int)).bind fun g=>Option.bind (nh f b.aF.l g) fun i=>on (i) fun j=>Option.bind (lR f (jU n) b.av.l j) fun k=>on (k) fun m=>some m
def Am (n:Nat):Prop:=∀{a0:aa}{a1:Int}   {r:Int},jU n a0 a1=some r->∀(H:ah),AC Tryz.prog 57 [.agg (aa.c a0),.d (.int .i64 a1)] H fun v h'=>v=.a (.d (.int .i64 r))/\h'=H
theorem O_ (n:Nat) (I:Am (ak:=ak) n):Am (ak:=ak) (n+1):=by
 intro g j   r b H;rw [jU] at b;refine AC.oW 55 [.tmp 4] Tryz.call57 Tryz.func57 ?_;refine af (S BX (S As (nil ?_)));refine af (S Fv (S Ld ?_));refine mS (TK rfl) rfl rfl rfl rfl fun au=>?_;obtain⟨J,K,b⟩:=qT rfl b;refine s0 (cI rfl rfl K) rfl ?_;refine S As (nil ?_);refine aT (TA 1 (TA 2 kN)) (fun(z:Int)=>[(5,.a (.d (.int .i64 z)))]) (fun z=>H) (fun z=>(Option.bind (lR j (jU n) g.av.l z) fun i=>on (i) fun u=>some u)=some r) ?_ ?_
 ·intro aw L;refine af (S As (nil ?_));refine block ?_;obtain⟨k,M,b⟩:=cB b;refine bx (TA 1 (TA 2 kN)) (fun(z:Int×Nat)=>[(5,.a (.d (.int .i64 z.1))),(6,.a (.d (.int .i64 ((z.2:Nat):Int))))]) (fun z=>H) (fun z=>g.aF.l.length-z.2) (fun z=>Option.bind (nh j (g.aF.l.drop z.2) z.1) k=some r) (J,0) b wA ?_;rintro ⟨m,v⟩ b ax N;try dsimp only at b
  refine ay fun O w=>?_;refine af (S Mv (S Fv (S Ld ?_)));refine sLen (f:=aP) (s:=g.aF) (TK rfl) rfl rfl rfl rfl fun az=>?_;refine S BI (S Mv (G0 Mv (G0 Mv ?_)));refine G2 18 19 rfl rfl BI ?_;refine S PA (nil ?_);refine ag.jk (fun l=>Option.bind (nh j l m) k=some r) (Option.bind (some m) k=some r) b (fun b=>by rw [nh] at b; exact b) (fun _ o b=>by rw [nh] at b; rw [o] at b; exact b) rfl rfl (fun aA y p P b=>?_) (fun p b=>?_)
  ·rw [nh] at b;rw [P,cond_true] at b;try dsimp only at p
   have aB:=oD (and_left p);refine sk w ?_;clear w O;refine ay fun Q B=>?_;refine block ?_;refine region ?_;refine S Mv ?_;obtain⟨aC,R,b⟩:=qO rfl b;refine s0 (cI rfl rfl R) rfl ?_;refine S Fv (S Ld (S Mv ?_));obtain⟨aD,U,b⟩:=vO y b;refine S (ix aP v U) (S Ld ?_);refine mS (TK rfl) rfl rfl rfl rfl fun aE=>?_;obtain⟨W,X,b⟩:=qO rfl b
   refine s0 (cI rfl rfl X) rfl ?_;refine S As (nil ?_);refine B _ ?_;clear B Q;refine region ?_;refine S Mv ?_;refine SI ?_;refine S As (nil ?_);exact N _ (W,(v+1)) wA b (dl y)
  have b:=ku M b;refine ag.exit ?_;obtain⟨aG,Y,b⟩:=bW b;have b:=ku Y b;exact L _ m wA b
 rintro Z b;try dsimp only at b
 refine aT kN (fun(z:Int)=>[(5,.a (.d (.int .i64 z)))]) (fun z=>H) (fun z=>(some z)=some r) ?_ ?_
 ·intro aH ab;refine af (S As (nil ?_));refine block ?_;obtain⟨q,ad,b⟩:=cB b;refine bx (TA 1 (TA 2 kN)) (fun(z:Int×Nat)=>[(5,.a (.d (.int .i64 z.1))),(7,.a (.d (.int .i64 ((z.2:Nat):Int))))]) (fun z=>H) (fun z=>g.av.l.length-z.2) (fun z=>Option.bind (lR j (jU n) (g.av.l.drop z.2) z.1) q=some r) (Z,0) b wA ?_;rintro ⟨i,C⟩ b aJ ae;try dsimp only at b
  refine ay fun ai E=>?_;refine af (S Mv (S Fv ?_));refine s0 (bS (TK rfl) rfl rfl (congrArg (fun x=>some (A.d x)) (aa.dm _))) rfl ?_;refine sLen (f:=aa.c) (s:=g.av) (TK rfl) rfl rfl rfl rfl fun aK=>?_;refine S BI (S Mv (G0 Mv (G0 Mv ?_)));refine G2 39 40 rfl rfl BI ?_;refine S PA (nil ?_);refine ag.jk (fun l=>Option.bind (lR j (jU n) l i) q=some r) (Option.bind (some i) q=some r) b (fun b=>by rw [lR] at b; exact b) (fun _ o b=>by rw [lR] at b; rw [o] at b; exact b) rfl rfl (fun aL F t aj b=>?_) (fun t b=>?_)
  ·rw [lR] at b;rw [aj,cond_true] at b;try dsimp only at t
   have aM:=oD (and_left t);refine sk E ?_;clear E ai;refine ay fun al G=>?_;refine block ?_;refine region ?_;refine S Mv (S Fv ?_);refine s0 (bS (TK rfl) rfl rfl (congrArg (fun x=>some (A.d x)) (aa.dm _))) rfl ?_;refine S Mv ?_;obtain⟨aN,am,b⟩:=vO F b;refine S (ix aa.c C am) (S Ld (S Mv ?_));obtain⟨aO,an,b⟩:=qO rfl b;refine Sc rfl rfl (I an) ?_
   obtain⟨ao,ap,b⟩:=qO rfl b;refine s0 (cI rfl rfl ap) rfl ?_;refine S As (nil ?_);refine G _ ?_;clear G al;refine region ?_;refine S Mv ?_;refine SI ?_;refine S As (nil ?_);exact ae _ (ao,(C+1)) wA b (dl F)
  have b:=ku ad b;refine ag.exit ?_;obtain⟨aQ,aq,b⟩:=bW b;have b:=ku aq b;exact ab _ i wA b
 rintro u b;try dsimp only at b
 refine af (S Mv (S As (nil ?_)));exact rt b
theorem GL:∀(n:Nat),(Am (ak:=ak) n)
 | 0=>fun b=>by first|cases b|(rw [jU] at b; cases b)
 | n+1=>O_ n (GL n)
def An (b:aa) (f:Int):Option Int:=jU F0 b f
theorem Ao {b:aa}{f r:Int}(g:An b f=some r) (H:ah) :AC Tryz.prog 57 [.agg (aa.c b),.d (.int .i64 f)] H fun v h'=>v=.a (.d (.int .i64 r))/\h'=H:=(GL F0) g H 
def uH (b:aa) (f:Int):Option Int:=jU F0 b f
theorem Ap (a0:aa) (a1:Int):An a0 a1=uH a0 a1:=rfl
def rW  (b:Int):Option Int:=some b
def rX (b:Nat) (f:Int->Nat->Option Int) (g:Int):Option Int:=f g (b+1)
def rY (i:(Sl aL)) (j:Int) (b:Nat) (k:Int->Nat->Option Int):Nat->Int->Nat->Option Int
 | 0,_,_=>none
 | m+1,f,g=>(i.l[b]?).bind fun o=>bif ((decide (((g:Nat):Int)<((o.aO.l.length:Nat):Int)))&&(decide (f<=j))) then((bG f (1:Int)).bind fun p=>(i.l[b]?).bind fun q=>(q.aO.l[g]?).bind fun r=>(An r.eU j).bind fun s=>(bG p s).bind fun t=>(rY i j b k m) t (g+1)) else(rX b k f)
def ni (b:(Sl aL)) (i:Int) :Nat->Int->Nat->Option Int
 | 0,_,_=>none
 | j+1,f,g=>bif ((decide (((g:Nat):Int)<((b.l.length:Nat):Int)))&&(decide (f<=i))) then((bG f (1:Int)).bind fun k=>rY b i g ((ni b i j)) (Option.elim (b.l[g]?) 1 (fun m=>m.aO.l.length+1)) k 0) else(rW   f)
def wW (b:(Sl aL)) (f:Int):Option Int:=ni b f (b.l.length+1) (0:Int) 0
theorem wX {g:Sl aL}{j:Int}{w0:Option Nat}{r:Int}(b:wW g j=some r) (H:ah) :AC Tryz.prog 51 [.d (Sl.d 2 aL.c w0 g),.d (.int .i64 j)] H fun v h'=>v=.a (.d (.int .i64 r))/\h'=H:=by
 unfold wW at b;refine AC.oW 51 [.tmp 4] Tryz.call51 Tryz.func51 ?_;refine af (S As (nil ?_));refine af (S As (nil ?_));refine aT kN (fun(z:Int)=>[(5,.a (.d (.int .i64 z)))]) (fun z=>H) (fun z=>rW z=some r) ?_ ?_
 ·intro Y y;refine af (S As (nil ?_));refine block ?_;refine bx (TA 0 (TA 1 kN)) (fun(z:Nat×Int×Nat)=>[(5,.a (.d (.int .i64 z.2.1))),(6,.a (.d (.int .i64 ((z.2.2:Nat):Int))))]) (fun z=>H) (fun z=>z.1) (fun z=>ni g j z.1 z.2.1 z.2.2=some r) ((g.l.length+1),(0:Int),0) b wA ?_;rintro ⟨k,B,i⟩ b Z C;try dsimp only at b
  cases k with
  | zero=>cases b
  | succ k =>
    rw [ni] at b;refine ay fun E t=>?_;refine af (S Mv (S Mv ?_));refine sLen (f:=aL.c) (s:=g) (TK rfl) rfl rfl rfl rfl fun aa=>?_;refine S BI (S Mv (G0 Mv (G0 Mv ?_)));refine G2 13 14 rfl rfl BI ?_;refine S PA (nil ?_);refine cE b (fun m b=>?_) (fun m b=>?_)
    ·try dsimp only at m
     have ab:=oD (and_left m);refine sk t ?_;clear t E;refine aT (TA 0 (TA 1 (TA 6 kN))) (fun(z:Int)=>[(5,.a (.d (.int .i64 z)))]) (fun z=>H) (fun z=>rX i ((ni g j k)) z=some r) ?_ ?_
     ·intro ad F;refine block ?_;refine af (S Mv ?_);obtain⟨G,I,b⟩:=bO b;refine s0 (cI rfl rfl I) rfl ?_;refine S As (nil ?_);refine af (S As (nil ?_));refine block ?_;refine bx (TA 0 (TA 1 (TA 6 kN))) (fun(z:Nat×Int×Nat)=>[(5,.a (.d (.int .i64 z.2.1))),(7,.a (.d (.int .i64 ((z.2.2:Nat):Int))))]) (fun z=>H) (fun z=>z.1) (fun z=>rY g j i ((ni g j k)) z.1 z.2.1 z.2.2=some r) ((Option.elim (g.l[i]?) 1 (fun o=>o.aO.l.length+1)),G,0) b wA ?_
      rintro ⟨p,J,u⟩ b ae K;try dsimp only at b
      cases p with
      | zero=>cases b
      | succ p =>
        rw [rY] at b;refine ay fun L w=>?_;refine af (S Mv (S Mv (S Mv ?_)));obtain⟨o,M,b⟩:=bO b;refine S (ix aL.c i M) (S Fv (S Ld ?_));refine sLen (f:=aD.c) (s:=o.aO) (TK rfl) rfl rfl rfl rfl fun ai=>?_;refine S BI (S Mv (G0 Mv (G0 Mv ?_)));refine G2 30 31 rfl rfl BI ?_;refine S PA (nil ?_);refine cE b (fun q b=>?_) (fun q b=>?_)
        ·try dsimp only at q
         have aj:=oD (and_left q);refine sk w ?_;clear w L;refine ay fun N x=>?_;refine block ?_;refine region ?_;refine S Mv ?_;obtain⟨ak,O,b⟩:=bO b;refine s0 (cI rfl rfl O) rfl ?_;refine S Mv (S Mv ?_);obtain⟨al,P,b⟩:=bO b;refine S (ix aL.c i P) (S Fv (S Ld (S Mv ?_)));obtain⟨am,Q,b⟩:=bO b;refine S (ix aD.c u Q) (S Fv (S Ld (S Mv ?_)))
         obtain⟨an,R,b⟩:=bO b;refine Sc rfl rfl (Ao R) ?_;obtain⟨U,W,b⟩:=bO b;refine s0 (cI rfl rfl W) rfl ?_;refine S As (nil ?_);refine x _ ?_;clear x N;refine region ?_;refine S Mv ?_;refine SI ?_;refine S As (nil ?_);exact K _ (p,U,(u+1)) wA b (nS _)
        refine ag.exit ?_;exact F _ J wA b
     rintro X b;try dsimp only at b
     unfold rX at b;refine region ?_;refine S Mv ?_;refine SI ?_;refine S As (nil ?_);exact C _ (k,X,(i+1)) wA b (nS _)
    refine ag.exit ?_;exact y _ B wA b
 rintro ao b;try dsimp only at b
 unfold rW at b;refine af (S Mv (S As (nil ?_)));exact rt b
def qu (f:Int) (g:aL):List aD->Int->Option (Int)
 | [],b=>some b
 | i::j,b=>bif (decide (b<=f)) then((bG b (1:Int)).bind fun k=>on (g) fun p=>on (i) fun l=>(uH l.eU f).bind fun m=>(bG k m).bind fun o=>qu f g (j) o) else(some b)
theorem Pa {s:Sl aL}{t:Int}{k:Nat}{m:Int->Nat->Option Int}{j:aL}(o:s.l[k]?=some j) (p:(Int)->Option Int) (q:∀(b:Nat) (f:Int) (g:Nat),rX k m f=p f):∀(b:Nat) (f:Int) (g:Nat),(0<b/\j.aO.l.length<g+b)->rY s t k m b f g=Option.bind (qu t j (j.aO.l.drop g) f) p:=by
 intro b;induction b with
 | zero=>intro f g hn; exact absurd hn.1 (by omega)
 | succ b u =>
  intro f g hn;rw [rY];refine Q.preB o fun v w=>?_;subst w;by_cases aY:g<v.aO.l.length
  ·obtain⟨x,i⟩:=Qa aY;rw [Q.jQ i,qu];refine Q.Gt (Q.wQ aY) ?_;refine Q.mZ ?_ ?_
   ·refine Q.oz rfl fun y=>?_;refine Q.m_ o fun z r=>?_;refine Q.m_ (by first|exact i|(simp only [r]; exact i)|(simp only [r] at i ⊢; exact i)) fun B C=>?_;refine Q.oz (Ap _ _) fun E=>?_;refine Q.oz rfl fun F=>?_;all_goals exact u _ _ ⟨by omega,by omega⟩
   all_goals exact q b f g
  rw [dL (by omega),qu];refine Q.Gu (Q.Aa aY) ?_;exact q b f g
def qv (f:Int):List aL->Int->Option (Int)
 | [],b=>some b
 | g::i,b=>bif (decide (b<=f)) then((bG b (1:Int)).bind fun j=>Option.bind (qu f g g.aO.l j) fun k=>on (k) fun m=>qv f (i) m) else(some b)
theorem Pb {i:Sl aL}{m:Int}(o:(Int)->Option Int) (p:∀(b:Nat) (g:Int) (f:Nat),rW   g=o g):∀(b:Nat) (g:Int) (f:Nat),(0<b/\i.l.length<f+b)->ni i m b g f=Option.bind (qv m (i.l.drop f) g) o:=by
 intro b;induction b with
 | zero=>intro g f hn; exact absurd hn.1 (by omega)
 | succ b q =>
  intro g f hn;rw [ni];by_cases aY:f<i.l.length
  ·obtain⟨w,j⟩:=Qa aY;rw [Q.jQ j,qv];refine Q.Gt (Q.wQ aY) ?_;refine Q.mZ ?_ ?_
   ·refine Q.oz rfl fun x=>?_;refine Q.rV fun r s=>?_;refine Pa j r ?_ _ _ _ ⟨by rw [j]; exact Nat.succ_pos _,by rw [j]; simp only [Option.elim]; omega⟩;intro y z B;refine Qe (s _) ?_;refine Q.rU fun t u=>?_;have v:∀(k:Int),rX f (ni i m b) k=t k:=by
     intro k;refine Qe (u _) ?_;unfold rX;all_goals exact q _ _ ⟨by omega,by omega⟩
    all_goals exact v _
   all_goals exact p b g f
  rw [dL (by omega),qv];refine Q.Gu (Q.Aa aY) ?_;exact p b g f
def oC (g:(Sl aL)) (i:Int):Option Int:=Option.bind (qv i g.l (0:Int)) fun b=>on (b) fun f=>some f
theorem wY (a0:(Sl aL)) (a1:Int):wW a0 a1=oC a0 a1:=by
 unfold wW oC;refine Qs ?_;refine Q.rV fun f g=>?_;refine Pb  f ?_ _ _ _ ⟨Nat.succ_pos _,by omega⟩;intro l m o;refine Qe (g _) ?_;refine Q.rU fun i j=>?_;have k:∀(b:Int),rW  b=i b:=by
  intro b;refine Qe (j _) ?_;unfold rW;all_goals rfl
 all_goals exact k _
def nj (f:Int):List Z8->Int->Option (Int)
 | [],b=>some b
 | g::i,b=>bif (decide (b<=f)) then((bG b (1:Int)).bind fun j=>on (g) fun k=>(bG j ((k.aJ.aK.l.length:Nat):Int)).bind fun m=>on (g) fun o=>(uH o.dy f).bind fun p=>(bG m p).bind fun q=>on (g) fun r=>(oC r.ck f).bind fun s=>(bG q s).bind fun t=>nj f (i) t) else(some b)
def qw (g:(Sl Z8)) (i:Int):Option Int:=Option.bind (nj i g.l (0:Int)) fun b=>on (b) fun f=>some f
def Aq (b:(Sl Z8)) (f:Int):Option Int:=qw b f
theorem GM (a0:(Sl Z8)) (a1:Int):Aq a0 a1=qw a0 a1:=rfl
theorem GN {g:Sl Z8}{k:Int}{w0:Option Nat}{r:Int}(b:Aq g k=some r) (H:ah) :AC Tryz.prog 52 [.d (Sl.d 10 Z8.c w0 g),.d (.int .i64 k)] H fun v h'=>v=.a (.d (.int .i64 r))/\h'=H:=by
 unfold Aq qw at b;refine AC.oW 45 [.tmp 4] Tryz.call52 Tryz.func52 ?_;refine af (S As (nil ?_));refine af (S As (nil ?_));refine aT kN (fun(z:Int)=>[(5,.a (.d (.int .i64 z)))]) (fun z=>H) (fun z=>(some z)=some r) ?_ ?_
 ·intro U u;refine af (S As (nil ?_));refine block ?_;obtain⟨m,w,b⟩:=cB b;refine bx (TA 0 (TA 1 kN)) (fun(z:Int×Nat)=>[(5,.a (.d (.int .i64 z.1))),(6,.a (.d (.int .i64 ((z.2:Nat):Int))))]) (fun z=>H) (fun z=>g.l.length-z.2) (fun z=>Option.bind (nj k (g.l.drop z.2) z.1) m=some r) ((0:Int),0) b wA ?_;rintro ⟨o,i⟩ b W x;try dsimp only at b
  refine ay fun y q=>?_;refine af (S Mv (S Mv ?_));refine sLen (f:=Z8.c) (s:=g) (TK rfl) rfl rfl rfl rfl fun X=>?_;refine S BI (S Mv (G0 Mv (G0 Mv ?_)));refine G2 12 13 rfl rfl BI ?_;refine S PA (nil ?_);refine ag.jk (fun l=>Option.bind (nj k l o) m=some r) (Option.bind (some o) m=some r) b (fun b=>by rw [nj] at b; exact b) (fun _ B b=>by rw [nj] at b; rw [B] at b; exact b) rfl rfl (fun Y j p C b=>?_) (fun p b=>?_)
  ·rw [nj] at b;rw [C,cond_true] at b;try dsimp only at p
   have Z:=oD (and_left p);refine sk q ?_;clear q y;refine ay fun E t=>?_;refine block ?_;refine ag.draw rfl ?_;refine Sd Mv ?_;obtain⟨aa,F,b⟩:=qO rfl b;refine au.s0 (cI rfl rfl F) rfl ?_;refine Sd Mv (Sd Mv ?_);obtain⟨G,I,b⟩:=vO j b;refine Sd (ix Z8.c i I) (Sd Fv (Sd Fv (Sd Ld ?_)));refine au.s0 (cZ (f:=(bp .i64)) (s:=G.aJ.aK) (TK rfl) rfl rfl rfl) rfl ?_
   obtain⟨ab,J,b⟩:=qO rfl b;refine au.s0 (cI rfl rfl J) rfl ?_;refine Sd Mv (Sd Mv ?_);obtain⟨ad,K,b⟩:=vO j b;refine Sd (ix Z8.c i K) (Sd Fv (Sd Ld (Sd Mv ?_)));obtain⟨ae,L,b⟩:=qO (Ap _ _) b;refine cq rfl rfl (Ao L) ?_;obtain⟨ai,M,b⟩:=qO rfl b;refine au.s0 (cI rfl rfl M) rfl ?_;refine Sd Mv (Sd Mv ?_);obtain⟨aj,N,b⟩:=vO j b;refine Sd (ix Z8.c i N) (Sd Fv (Sd Ld (Sd Mv ?_)))
   obtain⟨ak,O,b⟩:=qO (wY _ _) b;refine cq rfl rfl (wX O) ?_;obtain⟨P,Q,b⟩:=qO rfl b;refine au.s0 (cI rfl rfl Q) rfl ?_;refine Sd As ?_;refine au.nil (by decide +kernel) ?_;refine t _ ?_;clear t E;refine region ?_;refine S Mv ?_;refine SI ?_;refine S As (nil ?_);exact x _ (P,(i+1)) wA b (dl j)
  have b:=ku w b;refine ag.exit ?_;obtain⟨al,R,b⟩:=bW b;have b:=ku R b;exact u _ o wA b
 rintro am b;try dsimp only at b
 refine af (S Mv (S As (nil ?_)));exact rt b
def nk (f:Int):List Z6->Int->Option (Int)
 | [],b=>some b
 | g::i,b=>bif (decide (b<=f)) then((bG b (1:Int)).bind fun j=>on (g) fun k=>(bG j ((k.aJ.aK.l.length:Nat):Int)).bind fun m=>on (g) fun o=>(qw o.aO f).bind fun p=>(bG m p).bind fun q=>on (g) fun r=>(oC r.ck f).bind fun s=>(bG q s).bind fun t=>nk f (i) t) else(some b)
def lS (f:Int):List Z9->Int->Option (Int)
 | [],b=>some b
 | g::i,b=>bif (decide (b<=f)) then((bG b (1:Int)).bind fun j=>on (g) fun k=>(oC k.ck f).bind fun l=>(bG j l).bind fun m=>lS f (i) m) else(some b)
def kX (b:Int):List ax->Int->Option (Int)
 | [],f=>some f
 | i::j,f=>bif (decide (f<=b)) then(on (i) fun g=>(bG f ((g.bU.l.length:Nat):Int)).bind fun k=>(oC g.ck b).bind fun m=>(bG k m).bind fun o=>(qw g.bl b).bind fun p=>(bG o p).bind fun q=>Option.bind (nk b g.bC.l q) fun r=>on (r) fun s=>Option.bind (lS b g.bI.l s) fun t=>on (t) fun u=>kX b (j) u) else(some f)
def rZ (b:aq) (i:Int):Option Int:=Option.bind (kX i b.aA.l ((b.aA.l.length:Nat):Int)) fun f=>on (f) fun g=>some g
def Ar (b:aq) (f:Int):Option Int:=rZ b f
theorem Pc (a0:aq) (a1:Int):Ar a0 a1=rZ a0 a1:=rfl
theorem Pd {i:aq}{g r:Int}(b:Ar i g=some r) (H:ah) :AC Tryz.prog 20 [.agg (aq.c i),.d (.int .i64 g)] H fun v h'=>v=.a (.d (.int .i64 r))/\h'=H:=by
 unfold Ar rZ at b;refine AC.oW 110 [.tmp 4] Tryz.call20 Tryz.func20 ?_;refine af (S BX (S As (nil ?_)));refine af (S Fv (S Ld ?_));refine sLen (f:=ax.c) (s:=i.aA) (TK rfl) rfl rfl rfl rfl fun a2=>?_;refine S As (nil ?_);refine aT kN (fun(z:Int)=>[(5,.a (.d (.int .i64 z)))]) (fun z=>H) (fun z=>(some z)=some r) ?_ ?_
 ·intro a3 P;refine af (S As (nil ?_));refine block ?_;obtain⟨k,Q,b⟩:=cB b;refine bx (TA 1 (TA 2 kN)) (fun(z:Int×Nat)=>[(5,.a (.d (.int .i64 z.1))),(6,.a (.d (.int .i64 ((z.2:Nat):Int))))]) (fun z=>H) (fun z=>i.aA.l.length-z.2) (fun z=>Option.bind (kX g (i.aA.l.drop z.2) z.1) k=some r) (((i.aA.l.length:Nat):Int),0) b wA ?_;rintro ⟨u,p⟩ b a4 R
  try dsimp only at b
  refine ay fun U G=>?_;refine af (S Mv (S Fv (S Ld ?_)));refine sLen (f:=ax.c) (s:=i.aA) (TK rfl) rfl rfl rfl rfl fun a5=>?_;refine S BI (S Mv (G0 Mv (G0 Mv ?_)));refine G2 19 20 rfl rfl BI ?_;refine S PA (nil ?_);refine ag.jk (fun l=>Option.bind (kX g l u) k=some r) (Option.bind (some u) k=some r) b (fun b=>by rw [kX] at b; exact b) (fun _ m b=>by rw [kX] at b; rw [m] at b; exact b) rfl rfl (fun a6 I w W b=>?_) (fun w b=>?_)
  ·rw [kX] at b;rw [W,cond_true] at b;try dsimp only at w
   have a7:=oD (and_left w);refine sk G ?_;clear G U;refine aT (TA 1 (TA 2 (TA 6 kN))) (fun(z:Int)=>[(5,.a (.d (.int .i64 z)))]) (fun z=>H) (fun z=>Option.bind (kX g (i.aA.l.drop (p+1)) z) k=some r) ?_ ?_
   ·intro a8 X;refine block ?_;refine af (S Fv (S Ld (S Mv ?_)));obtain⟨j,Y,b⟩:=vO I b;refine S (ix ax.c p Y) (S Ld ?_);refine Sl ?_;refine Sf ?_;refine nil ?_;refine bu 7 _ rfl (KA 1 (KA 2 (KA 5 (KA 6 aS.nil)))) ?_;refine ag.bY (Sd Mv (Sd Fv (Sd Ld ?_)));refine au.s0 (cZ (f:=aP) (s:=j.bU) (TK rfl) rfl rfl rfl) rfl ?_;obtain⟨a9,Z,b⟩:=qO rfl b
    refine au.s0 (cI rfl rfl Z) rfl ?_;refine Sd Fv (Sd Ld (Sd Mv ?_));obtain⟨a_,aa,b⟩:=qO (wY _ _) b;refine cq rfl rfl (wX aa) ?_;obtain⟨a',ab,b⟩:=qO rfl b;refine au.s0 (cI rfl rfl ab) rfl ?_;refine Sd Fv (Sd Ld (Sd Mv ?_));obtain⟨ba,ad,b⟩:=qO (GM _ _) b;refine cq rfl rfl (GN ad) ?_;obtain⟨ae,ai,b⟩:=qO rfl b;refine au.s0 (cI rfl rfl ai) rfl ?_
    refine Sd As ?_;refine au.nil (by decide +kernel) ?_;refine aT (TA 1 (TA 2 (TA 6 (TA 7 kN)))) (fun(z:Int)=>[(5,.a (.d (.int .i64 z)))]) (fun z=>H) (fun z=>Option.bind (Option.bind (lS g j.bI.l z) fun o=>on (o) fun x=>kX g (i.aA.l.drop (p+1)) x) k=some r) ?_ ?_
    ·intro bb aj;refine af (S As (nil ?_));refine block ?_;obtain⟨y,ak,b⟩:=gE b;refine bx (TA 1 (TA 2 (TA 6 (TA 7 kN)))) (fun(z:Int×Nat)=>[(5,.a (.d (.int .i64 z.1))),(8,.a (.d (.int .i64 ((z.2:Nat):Int))))]) (fun z=>H) (fun z=>j.bC.l.length-z.2) (fun z=>Option.bind (nk g (j.bC.l.drop z.2) z.1) y=some r) (ae,0) b wA ?_;rintro ⟨B,q⟩ b bc al
     try dsimp only at b
     refine ay fun am J=>?_;refine af (S Mv (S Fv (S Ld ?_)));refine sLen (f:=Z6.c) (s:=j.bC) (TK rfl) rfl rfl rfl rfl fun bd=>?_;refine S BI (S Mv (G0 Mv (G0 Mv ?_)));refine G2 51 52 rfl rfl BI ?_;refine S PA (nil ?_);refine ag.jk (fun l=>Option.bind (nk g l B) y=some r) (Option.bind (some B) y=some r) b (fun b=>by rw [nk] at b; exact b) (fun _ m b=>by rw [nk] at b; rw [m] at b; exact b) rfl rfl (fun be t C an b=>?_) (fun C b=>?_)
     ·rw [nk] at b;rw [an,cond_true] at b;try dsimp only at C
      have bf:=oD (and_left C);refine sk J ?_;clear J am;refine ay fun ao K=>?_;refine block ?_;refine ag.draw rfl ?_;refine Sd Mv ?_;obtain⟨bg,ap,b⟩:=qO rfl b;refine au.s0 (cI rfl rfl ap) rfl ?_;refine Sd Fv (Sd Ld (Sd Mv ?_));obtain⟨av,aw,b⟩:=vO t b;refine Sd (ix Z6.c q aw) (Sd Fv (Sd Fv (Sd Ld ?_)));refine au.s0 (cZ (f:=(bp .i64)) (s:=av.aJ.aK) (TK rfl) rfl rfl rfl) rfl ?_
      obtain⟨bh,az,b⟩:=qO rfl b;refine au.s0 (cI rfl rfl az) rfl ?_;refine Sd Fv (Sd Ld (Sd Mv ?_));obtain⟨bi,aB,b⟩:=vO t b;refine Sd (ix Z6.c q aB) (Sd Fv (Sd Ld (Sd Mv ?_)));obtain⟨bj,aC,b⟩:=qO (GM _ _) b;refine cq rfl rfl (GN aC) ?_;obtain⟨bk,aD,b⟩:=qO rfl b;refine au.s0 (cI rfl rfl aD) rfl ?_;refine Sd Fv (Sd Ld (Sd Mv ?_));obtain⟨bl,aE,b⟩:=vO t b
      refine Sd (ix Z6.c q aE) (Sd Fv (Sd Ld (Sd Mv ?_)));obtain⟨bm,aF,b⟩:=qO (wY _ _) b;refine cq rfl rfl (wX aF) ?_;obtain⟨aG,aH,b⟩:=qO rfl b;refine au.s0 (cI rfl rfl aH) rfl ?_;refine Sd As ?_;refine au.nil (by decide +kernel) ?_;refine K _ ?_;clear K ao;refine region ?_;refine S Mv ?_;refine SI ?_;refine S As (nil ?_);exact al _ (aG,(q+1)) wA b (dl t)
     have b:=ku ak b;refine ag.exit ?_;obtain⟨bn,aL,b⟩:=jR b;have b:=ku aL b;exact aj _ B wA b
    rintro aM b;try dsimp only at b
    refine af (S As (nil ?_));refine block ?_;obtain⟨E,aN,b⟩:=gE b;refine bx (TA 1 (TA 2 (TA 6 (TA 7 kN)))) (fun(z:Int×Nat)=>[(5,.a (.d (.int .i64 z.1))),(9,.a (.d (.int .i64 ((z.2:Nat):Int))))]) (fun z=>H) (fun z=>j.bI.l.length-z.2) (fun z=>Option.bind (lS g (j.bI.l.drop z.2) z.1) E=some r) (aM,0) b wA ?_;rintro ⟨o,L⟩ b bo aO;try dsimp only at b
    refine ay fun aQ M=>?_;refine af (S Mv (S Fv (S Ld ?_)));refine sLen (f:=Z9.c) (s:=j.bI) (TK rfl) rfl rfl rfl rfl fun bq=>?_;refine S BI (S Mv (G0 Mv (G0 Mv ?_)));refine G2 92 93 rfl rfl BI ?_;refine S PA (nil ?_);refine ag.jk (fun l=>Option.bind (lS g l o) E=some r) (Option.bind (some o) E=some r) b (fun b=>by rw [lS] at b; exact b) (fun _ m b=>by rw [lS] at b; rw [m] at b; exact b) rfl rfl (fun br N F aR b=>?_) (fun F b=>?_)
    ·rw [lS] at b;rw [aR,cond_true] at b;try dsimp only at F
     have bs:=oD (and_left F);refine sk M ?_;clear M aQ;refine ay fun aU O=>?_;refine block ?_;refine region ?_;refine S Mv ?_;obtain⟨bt,aV,b⟩:=qO rfl b;refine s0 (cI rfl rfl aV) rfl ?_;refine S Fv (S Ld (S Mv ?_));obtain⟨bv,aW,b⟩:=vO N b;refine S (ix Z9.c L aW) (S Fv (S Ld (S Mv ?_)));obtain⟨bw,aX,b⟩:=qO (wY _ _) b;refine Sc rfl rfl (wX aX) ?_
     obtain⟨aY,aZ,b⟩:=qO rfl b;refine s0 (cI rfl rfl aZ) rfl ?_;refine S As (nil ?_);refine O _ ?_;clear O aU;refine region ?_;refine S Mv ?_;refine SI ?_;refine S As (nil ?_);exact aO _ (aY,(L+1)) wA b (dl N)
    have b:=ku aN b;refine ag.exit ?_;obtain⟨bB,a0,b⟩:=jR b;have b:=ku a0 b;exact X _ o wA b
   rintro x b;try dsimp only at b
   refine region ?_;refine S Mv ?_;refine SI ?_;refine S As (nil ?_);exact R _ (x,(p+1)) wA b (dl I)
  have b:=ku Q b;refine ag.exit ?_;obtain⟨bD,a1,b⟩:=bW b;have b:=ku a1 b;exact P _ u wA b
 rintro bE b;try dsimp only at b
 refine af (S Mv (S As (nil ?_)));exact rt b
def lT (b:Int):Bool:=((((decide ((65:Int)<=b))&&(decide (b<=(90:Int))))||((decide ((97:Int)<=b))&&(decide (b<=(122:Int)))))||(decide (b=(95:Int))))
def Au (b:Int):Option Bool:=some (lT b)
theorem Pe (a0:Int):Au a0=some (lT a0):=rfl
theorem Pg {f:Int}{r:Bool}(b:Au f=some r) (H:ah) :AC Tryz.prog 143 [.d (.int .u8 f)] H fun v h'=>v=.a (.d (.bool r))/\h'=H:=by
 unfold Au lT at b;refine AC.oW 21 [.tmp 2] Tryz.call143 Tryz.func143 ?_;refine af (S As (nil ?_));refine af (S Mv (S BI (S Mv (G0 Mv ?_))));refine G1 6 rfl BI ?_;refine S PA (S Mv (G0 Mv ?_));refine G1 10 rfl BI ?_;refine G1 11 rfl Mv ?_;refine G0 Mv ?_;refine G1 13 rfl BI ?_;refine gC rfl rfl (fun hC=>aG (k:=12) rfl (fV rfl rfl rfl)) rfl ?_;refine S PO (S Mv (G0 Mv ?_));refine G1 18 rfl BI ?_
 refine S PO (S As (nil ?_));exact rt b
def qx (b:Int):Bool:=((decide ((48:Int)<=b))&&(decide (b<=(57:Int))))
def Av (b:Int):Option Bool:=some (qx b)
theorem Ph (a0:Int):Av a0=some (qx a0):=rfl
theorem Pj {f:Int}{r:Bool}(b:Av f=some r) (H:ah) :AC Tryz.prog 144 [.d (.int .u8 f)] H fun v h'=>v=.a (.d (.bool r))/\h'=H:=by
 unfold Av qx at b;refine AC.oW 9 [.tmp 2] Tryz.call144 Tryz.func144 ?_;refine af (S As (nil ?_));refine af (S Mv (S BI (S Mv (G0 Mv ?_))));refine G1 6 rfl BI ?_;refine S PA (S As (nil ?_));exact rt b
def nq :List UInt8->Nat->Unit ⊕ Bool
 | [],b=>Sum.inl ()
 | g::i,b=>on (g) fun j=>on (lT ((j.toNat:Nat):Int)) fun f=>on (bif ((!f)&&!(decide (((b:Nat):Int)=(0:Int)))) then g else(0:UInt8)) fun k=>on (bif ((!f)&&!(decide (((b:Nat):Int)=(0:Int)))) then qx ((k.toNat:Nat):Int) else false) fun l=>bif ((!f)&&((decide (((b:Nat):Int)=(0:Int)))||(!l))) then(Sum.inr false) else(nq  (i) (b+1) )
def eE (b:Bs):Bool:=bif ((decide (((b.length:Nat):Int)<(1:Int)))||(decide ((64:Int)<((b.length:Nat):Int)))) then(false) else(on (nq  b 0 ) fun f=>match f with|Sum.inl _=>(on (()) fun _=>true)|Sum.inr g=>(g))
def uI (b:Bs):Option Bool:=some (eE b)
theorem jo (a0:Bs):uI a0=some (eE a0):=rfl
theorem jq {g:Bs}{r:Bool}(b:uI g=some r) (H:ah) :AC Tryz.prog 91 [.d (.str g)] H fun v h'=>v=.a (.d (.bool r))/\h'=H:=by
 unfold uI eE at b;refine AC.oW 34 [.tmp 2] Tryz.call91 Tryz.func91 ?_;refine af (S As (nil ?_));refine ay fun t m=>?_;refine af (S Mv ?_);refine mS (TK rfl) rfl rfl rfl rfl fun K=>?_;refine S BI (S Mv (G0 Mv ?_));refine gC rfl rfl (fun hC=>aG (k:=8) rfl (wo (TK rfl) rfl rfl rfl)) rfl ?_;refine G1 9 rfl BI ?_;refine S PO (nil ?_);refine cP b (fun u b=>?_) (fun u b=>?_)
 ·refine af (S As (nil ?_));exact rt b
 refine sk m ?_;clear m t;refine aT kN (fun(z:Unit)=>[]) (fun z=>H) (fun z=>some (true)=some r) ?_ ?_
 ·intro L w;refine af (S As (nil ?_));refine block ?_;obtain⟨o,p,b⟩:=eB b;refine bx (TA 0 kN) (fun(z:Nat)=>[(3,.a (.d (.int .i64 ((z:Nat):Int))))]) (fun z=>H) (fun z=>g.length-z) (fun z=>o (nq  (g.drop z) z )=some r) 0 b wA ?_;rintro f b M x;try dsimp only at b
  refine ay fun y q=>?_;refine af (S Mv (S Mv ?_));refine mS (TK rfl) rfl rfl rfl rfl fun N=>?_;refine S BI (nil ?_);refine ag.cA (fun l=>o (nq  l f )=some r) b rfl (fun O i j b=>?_) (fun j b=>?_)
  ·rw [nq] at b;try dsimp only at j
   have P:=oD j;refine sk q ?_;clear q y;refine ay fun B s=>?_;refine block ?_;refine af (S Mv (S Mv ?_));obtain⟨Q,C,b⟩:=vP i b;refine s0 (qi (n:=f) (TK rfl) rfl rfl rfl C) rfl ?_;obtain⟨R,E,b⟩:=vP (Pe _) b;refine Sc rfl rfl (Pg E) ?_;refine S NB (S Mv (G0 Mv ?_));refine G1 24 rfl BI ?_;refine G1 25 rfl Mv ?_;refine G0 Mv (G0 Mv ?_)
   obtain⟨U,F,b⟩:=lP (fun _=>i) b;refine gC rfl rfl (fun hC=>aG (k:=27) rfl (aG (k:=28) rfl (qi (n:=f) (TK rfl) rfl rfl rfl (F hC)))) rfl ?_;obtain⟨W,G,b⟩:=lP (fun _=>(Ph _)) b;refine dA 29 rfl rfl rfl rfl rfl (fun hC=>Pj (G hC)) ?_;refine G1 30 rfl NB ?_;refine gC rfl rfl (fun hC=>aG (k:=26) rfl (qk rfl rfl rfl)) rfl ?_;refine S PA (nil ?_)
   refine cP b (fun I b=>?_) (fun I b=>?_)
   ·refine af (S As (nil ?_));refine ag.ret ?_;repeat (first|refine bK ?_|refine bL ?_)
    have b:=ku p b;obtain rfl:=oJ b;refine bz.bJ H rfl ⟨rfl,rfl⟩ ?_;exact(fun _ _ h=>h)
   refine sk s ?_;clear s B;refine region ?_;refine S Mv ?_;refine SI ?_;refine S As (nil ?_);exact x _ (f+1) wA b (dl i)
  rw [nq] at b;have b:=ku p b;try dsimp only at b
  refine ag.exit ?_;obtain⟨X,J,b⟩:=eB b;have b:=ku J b;exact w _ () wA b
 rintro _ b;try dsimp only at b
 refine af (S As (nil ?_));exact rt b
def lU (f:aa->Option Int):List aa->Int->Option (Int)
 | [],b=>some b
 | g::i,b=>on (g) fun j=>(f j).bind fun k=>(bG b k).bind fun l=>lU f (i) l
def jr:Nat->aa->Option Int
 | 0,_=>none
 | n+1,g=>Option.bind (lU (jr n) g.av.l (1:Int)) fun b=>on (b) fun f=>some f
def Aw (n:Nat):Prop:=∀{a0:aa}   {r:Int},jr n a0=some r->∀(H:ah),AC Tryz.prog 191 [.agg (aa.c a0)] H fun v h'=>v=.a (.d (.int .i64 r))/\h'=H
theorem Pk (n:Nat) (t:Aw (ak:=ak) n):Aw (ak:=ak) (n+1):=by
 intro i   r b H;rw [jr] at b;refine AC.oW 21 [.tmp 2] Tryz.call191 Tryz.func191 ?_;refine af (S BX (S As (nil ?_)));refine af (S As (nil ?_));refine aT kN (fun(z:Int)=>[(3,.a (.d (.int .i64 z)))]) (fun z=>H) (fun z=>(some z)=some r) ?_ ?_
 ·intro J u;refine af (S As (nil ?_));refine block ?_;obtain⟨j,v,b⟩:=cB b;refine bx (TA 1 kN) (fun(z:Int×Nat)=>[(3,.a (.d (.int .i64 z.1))),(4,.a (.d (.int .i64 ((z.2:Nat):Int))))]) (fun z=>H) (fun z=>i.av.l.length-z.2) (fun z=>Option.bind (lU (jr n) (i.av.l.drop z.2) z.1) j=some r) ((1:Int),0) b wA ?_;rintro ⟨k,m⟩ b K w;try dsimp only at b
  refine ay fun y o=>?_;refine af (S Mv (S Fv ?_));refine s0 (bS (TK rfl) rfl rfl (congrArg (fun x=>some (A.d x)) (aa.dm _))) rfl ?_;refine sLen (f:=aa.c) (s:=i.av) (TK rfl) rfl rfl rfl rfl fun L=>?_;refine S BI (nil ?_);refine ag.cA (fun l=>Option.bind (lU (jr n) l k) j=some r) b rfl (fun M p g b=>?_) (fun g b=>?_)
  ·rw [lU] at b;try dsimp only at g
   have N:=oD g;refine sk o ?_;clear o y;refine ay fun B q=>?_;refine block ?_;refine region ?_;refine S Mv (S Fv ?_);refine s0 (bS (TK rfl) rfl rfl (congrArg (fun x=>some (A.d x)) (aa.dm _))) rfl ?_;refine S Mv ?_;obtain⟨O,C,b⟩:=vO p b;refine S (ix aa.c m C) (S Ld ?_);obtain⟨P,E,b⟩:=qO rfl b;refine Sc rfl rfl (t E) ?_;obtain⟨F,G,b⟩:=qO rfl b
   refine s0 (cI rfl rfl G) rfl ?_;refine S As (nil ?_);refine q _ ?_;clear q B;refine region ?_;refine S Mv ?_;refine SI ?_;refine S As (nil ?_);exact w _ (F,(m+1)) wA b (dl p)
  rw [lU] at b;have b:=ku v b;refine ag.exit ?_;obtain⟨Q,I,b⟩:=bW b;have b:=ku I b;exact u _ k wA b
 rintro R b;try dsimp only at b
 refine af (S Mv (S As (nil ?_)));exact rt b
theorem GO:∀(n:Nat),(Aw (ak:=ak) n)
 | 0=>fun b=>by first|cases b|(rw [jr] at b; cases b)
 | n+1=>Pk n (GO n)
def GP (b:aa):Option Int:=jr F0 b
theorem GQ {b:aa}{r:Int}(f:GP b=some r) (H:ah) :AC Tryz.prog 191 [.agg (aa.c b)] H fun v h'=>v=.a (.d (.int .i64 r))/\h'=H:=(GO F0) f H 
def r_ (b:aa):Option Int:=jr F0 b
theorem GR (a0:aa):GP a0=r_ a0:=rfl
def lV (f:aa->Option Int):List aa->Int->Option (Int)
 | [],b=>some b
 | i::j,b=>on (i) fun k=>(f k).bind fun g=>lV f (j) (if g>b then g else b)
def js:Nat->aa->Option Int
 | 0,_=>none
 | n+1,i=>Option.bind (lV (js n) i.av.l (0:Int)) fun b=>on (b) fun f=>(bG f (1:Int)).bind fun g=>some g
def Ax (n:Nat):Prop:=∀{a0:aa}   {r:Int},js n a0=some r->∀(H:ah),AC Tryz.prog 192 [.agg (aa.c a0)] H fun v h'=>v=.a (.d (.int .i64 r))/\h'=H
theorem Pm (n:Nat) (v:Ax (ak:=ak) n):Ax (ak:=ak) (n+1):=by
 intro j   r b H;rw [js] at b;refine AC.oW 22 [.tmp 2] Tryz.call192 Tryz.func192 ?_;refine af (S BX (S As (nil ?_)));refine af (S As (nil ?_));refine aT kN (fun(z:Int)=>[(3,.a (.d (.int .i64 z)))]) (fun z=>H) (fun z=>((bG z (1:Int)).bind fun k=>some k)=some r) ?_ ?_
 ·intro K w;refine af (S As (nil ?_));refine block ?_;obtain⟨m,y,b⟩:=cB b;refine bx (TA 1 kN) (fun(z:Int×Nat)=>[(3,.a (.d (.int .i64 z.1))),(4,.a (.d (.int .i64 ((z.2:Nat):Int))))]) (fun z=>H) (fun z=>j.av.l.length-z.2) (fun z=>Option.bind (lV (js n) (j.av.l.drop z.2) z.1) m=some r) ((0:Int),0) b wA ?_;rintro ⟨g,o⟩ b L B;try dsimp only at b
  refine ay fun C p=>?_;refine af (S Mv (S Fv ?_));refine s0 (bS (TK rfl) rfl rfl (congrArg (fun x=>some (A.d x)) (aa.dm _))) rfl ?_;refine sLen (f:=aa.c) (s:=j.av) (TK rfl) rfl rfl rfl rfl fun M=>?_;refine S BI (nil ?_);refine ag.cA (fun l=>Option.bind (lV (js n) l g) m=some r) b rfl (fun N q i b=>?_) (fun i b=>?_)
  ·rw [lV] at b;try dsimp only at i
   have O:=oD i;refine sk p ?_;clear p C;refine ay fun E t=>?_;refine block ?_;refine region ?_;refine S Mv (S Fv ?_);refine s0 (bS (TK rfl) rfl rfl (congrArg (fun x=>some (A.d x)) (aa.dm _))) rfl ?_;refine S Mv ?_;obtain⟨P,F,b⟩:=vO q b;refine S (ix aa.c o F) (S Ld ?_);obtain⟨u,G,b⟩:=qO rfl b;refine Sc rfl rfl (v G) ?_
   refine s0 (FV rfl rfl) rfl ?_;refine S As (nil ?_);refine t _ ?_;clear t E;refine region ?_;refine S Mv ?_;refine SI ?_;refine S As (nil ?_);exact B _ ((if u>g then u else g),(o+1)) wA b (dl q)
  rw [lV] at b;have b:=ku y b;refine ag.exit ?_;obtain⟨Q,I,b⟩:=bW b;have b:=ku I b;exact w _ g wA b
 rintro R b;try dsimp only at b
 refine af (S Mv ?_);obtain⟨k,J,b⟩:=qT rfl b;refine s0 (cI rfl rfl J) rfl ?_;refine S As (nil ?_);exact rt b
theorem GS:∀(n:Nat),(Ax (ak:=ak) n)
 | 0=>fun b=>by first|cases b|(rw [js] at b; cases b)
 | n+1=>Pm n (GS n)
def GU (b:aa):Option Int:=js F0 b
theorem GV {b:aa}{r:Int}(f:GU b=some r) (H:ah) :AC Tryz.prog 192 [.agg (aa.c b)] H fun v h'=>v=.a (.d (.int .i64 r))/\h'=H:=(GS F0) f H 
def sg (b:aa):Option Int:=js F0 b
theorem GW (a0:aa):GU a0=sg a0:=rfl
def kY (g:(Sl Bs)) (f:Bs):Nat->Nat->Option (Unit ⊕ Bool)
 | 0,b=>some (Sum.inl ())
 | i+1,b=>on (f) fun j=>(g.l[b]?).bind fun k=>bif ((j==k)) then(some (Sum.inr true)) else(kY g f (i) (b+1) )
def kZ (f:(Sl Bs)):List Bs->Nat->Option (Unit ⊕ Bool)
 | [],b=>some (Sum.inl ())
 | g::i,b=>Option.bind (kY f g b 0 ) fun j=>match j with|Sum.inl _=>(on (()) fun _=>kZ f (i) (b+1) )|Sum.inr k=>(some (Sum.inr k))
def oE (b:(Sl Bs)):Option Bool:=Option.bind (kZ b b.l 0 ) fun f=>match f with|Sum.inl _=>(on (()) fun _=>some false)|Sum.inr g=>(some g)
def Ay (b:(Sl Bs)):Option Bool:=oE b
theorem Pn (a0:(Sl Bs)):Ay a0=oE a0:=rfl
theorem Po {g:Sl Bs}{w0:Option Nat}{r:Bool}(b:Ay g=some r) (H:ah) :AC Tryz.prog 254 [.d (Sl.d 1 aP w0 g)] H fun v h'=>v=.a (.d (.bool r))/\h'=H:=by
 unfold Ay oE at b;refine AC.oW 25 [.tmp 2] Tryz.call254 Tryz.func254 ?_;refine af (S As (nil ?_));refine aT kN (fun(z:Unit)=>[]) (fun z=>H) (fun z=>(some false)=some r) ?_ ?_
 ·intro R C;refine af (S As (nil ?_));refine block ?_;obtain⟨j,p,b⟩:=cB b;refine bx (TA 0 kN) (fun(z:Nat)=>[(3,.a (.d (.int .i64 ((z:Nat):Int))))]) (fun z=>H) (fun z=>g.l.length-z) (fun z=>Option.bind (kZ g (g.l.drop z) z ) j=some r) 0 b wA ?_;rintro i b U E;try dsimp only at b
  refine ay fun F q=>?_;refine af (S Mv (S Mv ?_));refine sLen (f:=aP) (s:=g) (TK rfl) rfl rfl rfl rfl fun W=>?_;refine S BI (nil ?_);refine ag.cA (fun l=>Option.bind (kZ g l i ) j=some r) b rfl (fun t u k b=>?_) (fun k b=>?_)
  ·rw [kZ] at b;try dsimp only at k
   have X:=oD k;refine sk q ?_;clear q F;refine aT (TA 0 (TA 3 kN)) (fun(z:Unit)=>[]) (fun z=>H) (fun z=>Option.bind (kZ g (g.l.drop (i+1)) (i+1) ) j=some r) ?_ ?_
   ·intro Y G;refine block ?_;refine af (S As (nil ?_));refine block ?_;obtain⟨w,x,b⟩:=gE b;refine bx (TA 0 (TA 3 kN)) (fun(z:Nat)=>[(4,.a (.d (.int .i64 ((z:Nat):Int))))]) (fun z=>H) (fun z=>i-z) (fun z=>Option.bind (kY g t (i-z) z ) w=some r) 0 b wA ?_;rintro m b Z I;try dsimp only at b
    refine ay fun J y=>?_;refine af (S Mv (S Mv (S BI (nil ?_))));refine ag.Ac (fun l=>Option.bind (kY g t l m ) w=some r) b rfl (fun K o b=>?_) (fun o b=>?_)
    ·rw [kY] at b;try dsimp only at o
     have aa:=oD o;refine sk y ?_;clear y J;refine ay fun L B=>?_;refine block ?_;refine ag.bY (Sd Mv (Sd Mv ?_));obtain⟨ab,M,b⟩:=vO u b;refine Sd (ix aP i M) (Sd Ld (Sd Mv (Sd Mv ?_)));obtain⟨ad,N,b⟩:=qO rfl b;refine Sd (ix aP m N) (Sd Ld (Sd BS ?_));refine au.nil (by decide +kernel) ?_;refine cO b (fun O b=>?_) (fun O b=>?_)
     ·refine af (S As (nil ?_));refine ag.ret ?_;repeat (first|refine bK ?_|refine bL ?_)
      have b:=ku x b;have b:=ku p b;obtain rfl:=oJ b;refine bz.bJ H rfl ⟨rfl,rfl⟩ ?_;exact(fun _ _ h=>h)
     refine sk B ?_;clear B L;refine region ?_;refine S Mv ?_;refine SI ?_;refine S As (nil ?_);exact I _ (m+1) wA b (dn K)
    rw [kY] at b;have b:=ku x b;try dsimp only at b
    refine ag.exit ?_;obtain⟨ae,P,b⟩:=jR b;have b:=ku P b;exact G _ () wA b
   rintro _ b;try dsimp only at b
   refine region ?_;refine S Mv ?_;refine SI ?_;refine S As (nil ?_);exact E _ (i+1) wA b (dl u)
  rw [kZ] at b;have b:=ku p b;try dsimp only at b
  refine ag.exit ?_;obtain⟨ai,Q,b⟩:=bW b;have b:=ku Q b;exact C _ () wA b
 rintro _ b;try dsimp only at b
 refine af (S As (nil ?_));exact rt b
def k7 (b:aa) (f:Bool):Option Bool:=bif (decide (b.an=(0:Int))) then(some ((((decide (b.aV=(0:Int)))&&((b.aR==([]:Bs))))&&(decide (((b.av.l.length:Nat):Int)=(0:Int))))&&(decide (((b.aF.l.length:Nat):Int)=(0:Int))))) else(bif (decide (b.an=(1:Int))) then(some (((((decide (b.aV=(0:Int)))||(decide (b.aV=(1:Int))))&&((b.aR==([]:Bs))))&&(decide (((b.av.l.length:Nat):Int)=(0:Int))))&&(decide (((b.aF.l.length:Nat):Int)=(0:Int))))) else(bif (decide (b.an=(2:Int))) then(some ((((b.aR==([]:Bs)))&&(decide (((b.av.l.length:Nat):Int)=(0:Int))))&&(decide (((b.aF.l.length:Nat):Int)=(0:Int))))) else(bif (decide (b.an=(3:Int))) then(some (((decide (b.aV=(0:Int)))&&(decide (((b.av.l.length:Nat):Int)=(0:Int))))&&(decide (((b.aF.l.length:Nat):Int)=(0:Int))))) else(bif (decide (b.an=(4:Int))) then(on (bif (((decide (b.aV=(0:Int)))&&(decide (((b.av.l.length:Nat):Int)=(0:Int))))&&(decide (((b.aF.l.length:Nat):Int)=(0:Int)))) then eE b.aR else false) fun g=>some (((((((decide (b.aV=(0:Int)))&&(decide (((b.av.l.length:Nat):Int)=(0:Int))))&&(decide (((b.aF.l.length:Nat):Int)=(0:Int))))&&g)&&(!(b.aR==([116,114,117,101]:Bs))))&&(!(b.aR==([102,97,108,115,101]:Bs))))&&(!(b.aR==([110,117,108,108]:Bs))))) else(bif (decide (b.an=(5:Int))) then(some (((decide (b.aV=(0:Int)))&&((b.aR==([]:Bs))))&&(decide (((b.aF.l.length:Nat):Int)=(0:Int))))) else(bif (decide (b.an=(6:Int))) then(aN ((((decide (b.aV=(0:Int)))&&((b.aR==([]:Bs))))&&(decide (((b.aF.l.length:Nat):Int)=((b.av.l.length:Nat):Int))))) (oE b.aF) false fun i=>some ((((decide (b.aV=(0:Int)))&&((b.aR==([]:Bs))))&&(decide (((b.aF.l.length:Nat):Int)=((b.av.l.length:Nat):Int))))&&(!i))) else(bif (decide (b.an=(7:Int))) then(on (bif (((f&&(decide (b.aV=(0:Int))))&&(decide (((b.av.l.length:Nat):Int)=(0:Int))))&&(decide (((b.aF.l.length:Nat):Int)=(0:Int)))) then eE b.aR else false) fun j=>some ((((f&&(decide (b.aV=(0:Int))))&&(decide (((b.av.l.length:Nat):Int)=(0:Int))))&&(decide (((b.aF.l.length:Nat):Int)=(0:Int))))&&j)) else(some false))))))))
def Az (b:aa) (f:Bool):Option Bool:=k7 b f
theorem Pp (a0:aa) (a1:Bool):Az a0 a1=k7 a0 a1:=rfl
theorem Pq {g:aa}{j r:Bool}(b:Az g j=some r) (H:ah) :AC Tryz.prog 226 [.agg (aa.c g),.d (.bool j)] H fun v h'=>v=.a (.d (.bool r))/\h'=H:=by
 unfold Az k7 at b;refine AC.oW 193 [.tmp 4] Tryz.call226 Tryz.func226 ?_;refine af (S BX (S As (nil ?_)));refine ay fun l i=>?_;refine af (S Fv (S Ld (nil ?_)));refine block ?_;refine af (S BI (S As (nil ?_)));refine cE b (fun m b=>?_) (fun m b=>?_)
 ·refine af (S Fv (S Ld (S BI (S Mv (G0 Fv ?_)))));refine G1 13 rfl Ld ?_;refine G1 14 rfl BS ?_;refine S PA (S Mv (G0 Fv ?_));refine gC rfl rfl (fun hC=>aG (k:=18) rfl (bS (TK rfl) rfl rfl (congrArg (fun x=>some (A.d x)) (aa.dm _)))) rfl ?_;refine gC rfl rfl (fun hC=>aG (k:=19) rfl (cZ (f:=aa.c) (s:=g.av) (TK rfl) rfl rfl rfl)) rfl ?_;refine G1 20 rfl BI ?_;refine S PA (S Mv (G0 Fv ?_))
  refine G1 24 rfl Ld ?_;refine gC rfl rfl (fun hC=>aG (k:=25) rfl (cZ (f:=aP) (s:=g.aF) (TK rfl) rfl rfl rfl)) rfl ?_;refine G1 26 rfl BI ?_;refine S PA (S As (nil ?_));exact rt b
 refine af (S BI (S As (nil ?_)));refine cE b (fun o b=>?_) (fun o b=>?_)
 ·refine af (S Fv (S Ld (S BI (S Mv (G0 Fv ?_)))));refine G1 35 rfl Ld ?_;refine G1 36 rfl BI ?_;refine S PO (S Mv (G0 Fv ?_));refine G1 40 rfl Ld ?_;refine G1 41 rfl BS ?_;refine S PA (S Mv (G0 Fv ?_));refine gC rfl rfl (fun hC=>aG (k:=45) rfl (bS (TK rfl) rfl rfl (congrArg (fun x=>some (A.d x)) (aa.dm _)))) rfl ?_;refine gC rfl rfl (fun hC=>aG (k:=46) rfl (cZ (f:=aa.c) (s:=g.av) (TK rfl) rfl rfl rfl)) rfl ?_
  refine G1 47 rfl BI ?_;refine S PA (S Mv (G0 Fv ?_));refine G1 51 rfl Ld ?_;refine gC rfl rfl (fun hC=>aG (k:=52) rfl (cZ (f:=aP) (s:=g.aF) (TK rfl) rfl rfl rfl)) rfl ?_;refine G1 53 rfl BI ?_;refine S PA (S As (nil ?_));exact rt b
 refine af (S BI (S As (nil ?_)));refine cE b (fun p b=>?_) (fun p b=>?_)
 ·refine af (S Fv (S Ld (S BS (S Mv (G0 Fv ?_)))));refine gC rfl rfl (fun hC=>aG (k:=62) rfl (bS (TK rfl) rfl rfl (congrArg (fun x=>some (A.d x)) (aa.dm _)))) rfl ?_;refine gC rfl rfl (fun hC=>aG (k:=63) rfl (cZ (f:=aa.c) (s:=g.av) (TK rfl) rfl rfl rfl)) rfl ?_;refine G1 64 rfl BI ?_;refine S PA (S Mv (G0 Fv ?_));refine G1 68 rfl Ld ?_;refine gC rfl rfl (fun hC=>aG (k:=69) rfl (cZ (f:=aP) (s:=g.aF) (TK rfl) rfl rfl rfl)) rfl ?_
  refine G1 70 rfl BI ?_;refine S PA (S As (nil ?_));exact rt b
 refine af (S BI (S As (nil ?_)));refine cE b (fun q b=>?_) (fun q b=>?_)
 ·refine af (S Fv (S Ld (S BI (S Mv (G0 Fv ?_)))));refine gC rfl rfl (fun hC=>aG (k:=79) rfl (bS (TK rfl) rfl rfl (congrArg (fun x=>some (A.d x)) (aa.dm _)))) rfl ?_;refine gC rfl rfl (fun hC=>aG (k:=80) rfl (cZ (f:=aa.c) (s:=g.av) (TK rfl) rfl rfl rfl)) rfl ?_;refine G1 81 rfl BI ?_;refine S PA (S Mv (G0 Fv ?_));refine G1 85 rfl Ld ?_;refine gC rfl rfl (fun hC=>aG (k:=86) rfl (cZ (f:=aP) (s:=g.aF) (TK rfl) rfl rfl rfl)) rfl ?_
  refine G1 87 rfl BI ?_;refine S PA (S As (nil ?_));exact rt b
 refine af (S BI (S As (nil ?_)));refine cE b (fun t b=>?_) (fun t b=>?_)
 ·refine af (S Fv (S Ld (S BI (S Mv (G0 Fv ?_)))));refine gC rfl rfl (fun hC=>aG (k:=96) rfl (bS (TK rfl) rfl rfl (congrArg (fun x=>some (A.d x)) (aa.dm _)))) rfl ?_;refine gC rfl rfl (fun hC=>aG (k:=97) rfl (cZ (f:=aa.c) (s:=g.av) (TK rfl) rfl rfl rfl)) rfl ?_;refine G1 98 rfl BI ?_;refine S PA (S Mv (G0 Fv ?_));refine G1 102 rfl Ld ?_;refine gC rfl rfl (fun hC=>aG (k:=103) rfl (cZ (f:=aP) (s:=g.aF) (TK rfl) rfl rfl rfl)) rfl ?_
  refine G1 104 rfl BI ?_;refine S PA (S Mv (G0 Fv ?_));refine G1 108 rfl Ld ?_;obtain⟨E,u,b⟩:=lN (fun _=>(jo _)) b;refine dA 109 rfl rfl rfl rfl rfl (fun hC=>jq (u hC)) ?_;refine S PA (S Mv (G0 Fv ?_));refine G1 113 rfl Ld ?_;refine G1 114 rfl BS ?_;refine S PA (S Mv (G0 Fv ?_));refine G1 118 rfl Ld ?_;refine G1 119 rfl BS ?_;refine S PA (S Mv (G0 Fv ?_));refine G1 123 rfl Ld ?_
  refine G1 124 rfl BS ?_;refine S PA (S As (nil ?_));exact rt b
 refine af (S BI (S As (nil ?_)));refine cE b (fun w b=>?_) (fun w b=>?_)
 ·refine af (S Fv (S Ld (S BI (S Mv (G0 Fv ?_)))));refine G1 133 rfl Ld ?_;refine G1 134 rfl BS ?_;refine S PA (S Mv (G0 Fv ?_));refine G1 138 rfl Ld ?_;refine gC rfl rfl (fun hC=>aG (k:=139) rfl (cZ (f:=aP) (s:=g.aF) (TK rfl) rfl rfl rfl)) rfl ?_;refine G1 140 rfl BI ?_;refine S PA (S As (nil ?_));exact rt b
 refine af (S BI (S As (nil ?_)));refine cE b (fun y b=>?_) (fun y b=>?_)
 ·refine af (S Fv (S Ld (S BI (S Mv (G0 Fv ?_)))));refine G1 149 rfl Ld ?_;refine G1 150 rfl BS ?_;refine S PA (S Mv (G0 Fv ?_));refine G1 154 rfl Ld ?_;refine gC rfl rfl (fun hC=>aG (k:=155) rfl (cZ (f:=aP) (s:=g.aF) (TK rfl) rfl rfl rfl)) rfl ?_;refine G0 Fv ?_;refine gC rfl rfl (fun hC=>aG (k:=157) rfl (bS (TK rfl) rfl rfl (congrArg (fun x=>some (A.d x)) (aa.dm _)))) rfl ?_
  refine gC rfl rfl (fun hC=>aG (k:=158) rfl (cZ (f:=aa.c) (s:=g.av) (TK rfl) rfl rfl rfl)) rfl ?_;refine G2 156 159 rfl rfl BI ?_;refine S PA (S Mv (G0 Fv ?_));refine G1 163 rfl Ld ?_;obtain⟨F,z,b⟩:=dx (Pn _) b;refine dA 164 rfl rfl rfl rfl rfl (fun hC=>Po (z hC)) ?_;refine G1 165 rfl NB ?_;refine S PA (S As (nil ?_));exact rt b
 refine af (S BI (S As (nil ?_)));refine cE b (fun B b=>?_) (fun B b=>?_)
 ·refine af (S Mv (S Mv (G0 Fv ?_)));refine G1 172 rfl Ld ?_;refine G1 173 rfl BI ?_;refine S PA (S Mv (G0 Fv ?_));refine gC rfl rfl (fun hC=>aG (k:=177) rfl (bS (TK rfl) rfl rfl (congrArg (fun x=>some (A.d x)) (aa.dm _)))) rfl ?_;refine gC rfl rfl (fun hC=>aG (k:=178) rfl (cZ (f:=aa.c) (s:=g.av) (TK rfl) rfl rfl rfl)) rfl ?_;refine G1 179 rfl BI ?_;refine S PA (S Mv (G0 Fv ?_))
  refine G1 183 rfl Ld ?_;refine gC rfl rfl (fun hC=>aG (k:=184) rfl (cZ (f:=aP) (s:=g.aF) (TK rfl) rfl rfl rfl)) rfl ?_;refine G1 185 rfl BI ?_;refine S PA (S Mv (G0 Fv ?_));refine G1 189 rfl Ld ?_;obtain⟨G,C,b⟩:=lN (fun _=>(jo _)) b;refine dA 190 rfl rfl rfl rfl rfl (fun hC=>jq (C hC)) ?_;refine S PA (S As (nil ?_));exact rt b
 refine sk i ?_;clear i l;refine af (S As (nil ?_));exact rt b
def k8 (b:Bool):List Bs->Unit ⊕ Bool
 | []=>Sum.inl ()
 | f::g=>on (bif b then f else([]:Bs)) fun i=>on (bif b then eE i else false) fun j=>bif (b&&(!j)) then(Sum.inr false) else(k8 b (g) )
def iz (f:Bool) (b:aa->Bool->Option Bool):List aa->Option (Unit ⊕ Bool)
 | []=>some (Sum.inl ())
 | g::i=>on (g) fun j=>(b j f).bind fun k=>bif (!k) then(some (Sum.inr false)) else(iz f b (i) )
def fJ:Nat->aa->Bool->Option Bool
 | 0,_,_=>none
 | n+1,b,f=>(k7 b f).bind fun g=>bif (!g) then(some false) else(on (k8 f b.aF.l ) fun i=>match i with|Sum.inl _=>(on (()) fun _=>Option.bind (iz f (fJ n) b.av.l ) fun j=>match j with|Sum.inl _=>(on (()) fun _=>some true)|Sum.inr k=>(some k))|Sum.inr m=>(some m))
def AA (n:Nat):Prop:=∀{a0:aa}{a1:Bool}   {r:Bool},fJ n a0 a1=some r->∀(H:ah),AC Tryz.prog 193 [.agg (aa.c a0),.d (.bool a1)] H fun v h'=>v=.a (.d (.bool r))/\h'=H
theorem Pr (n:Nat) (I:AA (ak:=ak) n):AA (ak:=ak) (n+1):=by
 intro g i   r b H;rw [fJ] at b;refine AC.oW 43 [.tmp 4] Tryz.call193 Tryz.func193 ?_;refine af (S BX (S As (nil ?_)));refine ay fun J o=>?_;refine af (S Ld (S Mv ?_));obtain⟨an,K,b⟩:=qT (Pp _ _) b;refine Sc rfl rfl (Pq K) ?_;refine S NB (nil ?_);refine cE b (fun L b=>?_) (fun L b=>?_)
 ·refine af (S As (nil ?_));exact rt b
 refine sk o ?_;clear o J;refine aT (TA 1 (TA 2 kN)) (fun(z:Unit)=>[]) (fun z=>H) (fun z=>(Option.bind (iz i (fJ n) g.av.l ) fun M=>match M with|Sum.inl _=>(on (()) fun _=>some true)|Sum.inr N=>(some N))=some r) ?_ ?_
 ·intro ao O;refine af (S As (nil ?_));refine block ?_;obtain⟨p,q,b⟩:=bW b;refine bx (TA 1 (TA 2 kN)) (fun(z:Nat)=>[(5,.a (.d (.int .i64 ((z:Nat):Int))))]) (fun z=>H) (fun z=>g.aF.l.length-z) (fun z=>p (k8 i (g.aF.l.drop z) )=some r) 0 b wA ?_;rintro t b ap P;try dsimp only at b
  refine ay fun Q u=>?_;refine af (S Mv (S Fv (S Ld ?_)));refine sLen (f:=aP) (s:=g.aF) (TK rfl) rfl rfl rfl rfl fun aq=>?_;refine S BI (nil ?_);refine ag.cA (fun l=>p (k8 i l )=some r) b rfl (fun au v j b=>?_) (fun j b=>?_)
  ·rw [k8] at b;try dsimp only at j
   have aw:=oD j;refine sk u ?_;clear u Q;refine ay fun R w=>?_;refine block ?_;refine af (S Mv (S Mv (G0 Fv ?_)));refine G1 20 rfl Ld ?_;refine G0 Mv ?_;obtain⟨ax,U,b⟩:=lP (fun _=>v) b;refine gC rfl rfl (fun hC=>aG (k:=21) rfl (aG (k:=22) rfl (eR (f:=aP) (n:=t) (TK rfl) rfl (TK rfl) rfl rfl rfl (U hC)))) rfl ?_;refine G1 23 rfl Ld ?_
   obtain⟨az,W,b⟩:=lP (fun _=>(jo _)) b;refine dA 24 rfl rfl rfl rfl rfl (fun hC=>jq (W hC)) ?_;refine G1 25 rfl NB ?_;refine S PA (nil ?_);refine cP b (fun X b=>?_) (fun X b=>?_)
   ·refine af (S As (nil ?_));refine ag.ret ?_;repeat (first|refine bK ?_|refine bL ?_)
    have b:=ku q b;obtain rfl:=oJ b;refine bz.bJ H rfl ⟨rfl,rfl⟩ ?_;exact(fun _ _ h=>h)
   refine sk w ?_;clear w R;refine region ?_;refine S Mv ?_;refine SI ?_;refine S As (nil ?_);exact P _ (t+1) wA b (dl v)
  rw [k8] at b;have b:=ku q b;try dsimp only at b
  refine ag.exit ?_;obtain⟨aA,Y,b⟩:=bW b;have b:=ku Y b;exact O _ () wA b
 rintro _ b;try dsimp only at b
 refine aT kN (fun(z:Unit)=>[]) (fun z=>H) (fun z=>(some true)=some r) ?_ ?_
 ·intro aB Z;refine af (S As (nil ?_));refine block ?_;obtain⟨y,B,b⟩:=cB b;refine bx (TA 1 (TA 2 kN)) (fun(z:Nat)=>[(6,.a (.d (.int .i64 ((z:Nat):Int))))]) (fun z=>H) (fun z=>g.av.l.length-z) (fun z=>Option.bind (iz i (fJ n) (g.av.l.drop z) ) y=some r) 0 b wA ?_;rintro C b aC ab;try dsimp only at b
  refine ay fun ad E=>?_;refine af (S Mv (S Fv ?_));refine s0 (bS (TK rfl) rfl rfl (congrArg (fun x=>some (A.d x)) (aa.dm _))) rfl ?_;refine sLen (f:=aa.c) (s:=g.av) (TK rfl) rfl rfl rfl rfl fun aD=>?_;refine S BI (nil ?_);refine ag.cA (fun l=>Option.bind (iz i (fJ n) l ) y=some r) b rfl (fun aE F m b=>?_) (fun m b=>?_)
  ·rw [iz] at b;try dsimp only at m
   have aH:=oD m;refine sk E ?_;clear E ad;refine ay fun ae G=>?_;refine block ?_;refine af (S Fv ?_);refine s0 (bS (TK rfl) rfl rfl (congrArg (fun x=>some (A.d x)) (aa.dm _))) rfl ?_;refine S Mv ?_;obtain⟨aJ,ai,b⟩:=vO F b;refine S (ix aa.c C ai) (S Ld (S Mv ?_));obtain⟨aK,aj,b⟩:=qO rfl b;refine Sc rfl rfl (I aj) ?_;refine S NB (nil ?_)
   refine cO b (fun al b=>?_) (fun al b=>?_)
   ·refine af (S As (nil ?_));refine ag.ret ?_;repeat (first|refine bK ?_|refine bL ?_)
    have b:=ku B b;obtain rfl:=oJ b;refine bz.bJ H rfl ⟨rfl,rfl⟩ ?_;exact(fun _ _ h=>h)
   refine sk G ?_;clear G ae;refine region ?_;refine S Mv ?_;refine SI ?_;refine S As (nil ?_);exact ab _ (C+1) wA b (dl F)
  rw [iz] at b;have b:=ku B b;try dsimp only at b
  refine ag.exit ?_;obtain⟨aL,am,b⟩:=bW b;have b:=ku am b;exact Z _ () wA b
 rintro _ b;try dsimp only at b
 refine af (S As (nil ?_));exact rt b
theorem GX:∀(n:Nat),(AA (ak:=ak) n)
 | 0=>fun b=>by first|cases b|(rw [fJ] at b; cases b)
 | n+1=>Pr n (GX n)
def GY (b:aa) (f:Bool):Option Bool:=fJ F0 b f
theorem GZ {b:aa}{f r:Bool}(g:GY b f=some r) (H:ah) :AC Tryz.prog 193 [.agg (aa.c b),.d (.bool f)] H fun v h'=>v=.a (.d (.bool r))/\h'=H:=(GX F0) g H 
def wZ (b:aa) (f:Bool):Option Bool:=fJ F0 b f
theorem G3 (a0:aa) (a1:Bool):GY a0 a1=wZ a0 a1:=rfl
def gH (f:aa):Option Bool:=(r_ f).bind fun b=>aN ((decide (b<=(4096:Int)))) (sg f) (0:Int) fun g=>aN (((decide (b<=(4096:Int)))&&(decide (g<=(24:Int))))) (wZ f true) false fun i=>some (((decide (b<=(4096:Int)))&&(decide (g<=(24:Int))))&&i)
def w_ (b:aa):Option Bool:=gH b
theorem G4 (a0:aa):w_ a0=gH a0:=rfl
theorem G5 {f:aa}{r:Bool}(b:w_ f=some r) (H:ah) :AC Tryz.prog 145 [.agg (aa.c f)] H fun v h'=>v=.a (.d (.bool r))/\h'=H:=by
 unfold w_ gH at b;refine AC.oW 15 [.tmp 2] Tryz.call145 Tryz.func145 ?_;refine af (S BX (S As (nil ?_)));refine af (S Ld ?_);obtain⟨k,g,b⟩:=qT (GR _) b;refine Sc rfl rfl (GQ g) ?_;refine S BI (S Mv (G0 Ld ?_));obtain⟨l,i,b⟩:=dx (GW _) b;refine dA 7 rfl rfl rfl rfl rfl (fun hC=>GV (i hC)) ?_;refine G1 8 rfl BI ?_;refine S PA (S Mv (G0 Ld ?_));obtain⟨m,j,b⟩:=dx (G3 _ _) b
 refine dA 12 rfl rfl rfl rfl rfl (fun hC=>GZ (j hC)) ?_;refine S PA (S As (nil ?_));exact rt b
def oF (b:aa->Option Bool):List aa->Option (Unit ⊕ Bool)
 | []=>some (Sum.inl ())
 | f::g=>on (f) fun i=>(b i).bind fun j=>bif (!j) then(some (Sum.inr false)) else(oF b (g) )
def lW:Nat->aa->Option Bool
 | 0,_=>none
 | n+1,b=>Option.bind (oF (lW n) b.av.l ) fun f=>match f with|Sum.inl _=>(on (()) fun _=>some (!decide (b.an=(7:Int))))|Sum.inr g=>(some g)
def AB (n:Nat):Prop:=∀{a0:aa}   {r:Bool},lW n a0=some r->∀(H:ah),AC Tryz.prog 146 [.agg (aa.c a0)] H fun v h'=>v=.a (.d (.bool r))/\h'=H
theorem Ps (n:Nat) (t:AB (ak:=ak) n):AB (ak:=ak) (n+1):=by
 intro g   r b H;rw [lW] at b;refine AC.oW 21 [.tmp 2] Tryz.call146 Tryz.func146 ?_;refine af (S BX (S As (nil ?_)));refine aT (TA 1 kN) (fun(z:Unit)=>[]) (fun z=>H) (fun z=>(some (!decide (g.an=(7:Int))))=some r) ?_ ?_
 ·intro G u;refine af (S As (nil ?_));refine block ?_;obtain⟨j,k,b⟩:=cB b;refine bx (TA 1 kN) (fun(z:Nat)=>[(3,.a (.d (.int .i64 ((z:Nat):Int))))]) (fun z=>H) (fun z=>g.av.l.length-z) (fun z=>Option.bind (oF (lW n) (g.av.l.drop z) ) j=some r) 0 b wA ?_;rintro m b I v;try dsimp only at b
  refine ay fun w o=>?_;refine af (S Mv (S Fv ?_));refine s0 (bS (TK rfl) rfl rfl (congrArg (fun x=>some (A.d x)) (aa.dm _))) rfl ?_;refine sLen (f:=aa.c) (s:=g.av) (TK rfl) rfl rfl rfl rfl fun J=>?_;refine S BI (nil ?_);refine ag.cA (fun l=>Option.bind (oF (lW n) l ) j=some r) b rfl (fun K p i b=>?_) (fun i b=>?_)
  ·rw [oF] at b;try dsimp only at i
   have L:=oD i;refine sk o ?_;clear o w;refine ay fun y q=>?_;refine block ?_;refine af (S Fv ?_);refine s0 (bS (TK rfl) rfl rfl (congrArg (fun x=>some (A.d x)) (aa.dm _))) rfl ?_;refine S Mv ?_;obtain⟨M,B,b⟩:=vO p b;refine S (ix aa.c m B) (S Ld ?_);obtain⟨N,C,b⟩:=qO rfl b;refine Sc rfl rfl (t C) ?_;refine S NB (nil ?_)
   refine cO b (fun E b=>?_) (fun E b=>?_)
   ·refine af (S As (nil ?_));refine ag.ret ?_;repeat (first|refine bK ?_|refine bL ?_)
    have b:=ku k b;obtain rfl:=oJ b;refine bz.bJ H rfl ⟨rfl,rfl⟩ ?_;exact(fun _ _ h=>h)
   refine sk q ?_;clear q y;refine region ?_;refine S Mv ?_;refine SI ?_;refine S As (nil ?_);exact v _ (m+1) wA b (dl p)
  rw [oF] at b;have b:=ku k b;try dsimp only at b
  refine ag.exit ?_;obtain⟨O,F,b⟩:=bW b;have b:=ku F b;exact u _ () wA b
 rintro _ b;try dsimp only at b
 refine af (S Fv (S Ld (S BI (S As (nil ?_)))));exact rt b
theorem G6:∀(n:Nat),(AB (ak:=ak) n)
 | 0=>fun b=>by first|cases b|(rw [lW] at b; cases b)
 | n+1=>Ps n (G6 n)
def AD (b:aa):Option Bool:=lW F0 b
theorem G7 {b:aa}{r:Bool}(f:AD b=some r) (H:ah) :AC Tryz.prog 146 [.agg (aa.c b)] H fun v h'=>v=.a (.d (.bool r))/\h'=H:=(G6 F0) f H 
def xd (b:aa):Option Bool:=lW F0 b
theorem G8 (a0:aa):AD a0=xd a0:=rfl
def sj  :Option Bool:=some true
def sn (b:Nat) (f:Nat->Option Bool) :Option Bool:=f (b+1)
def sr (j:(Sl aL)) (b:Nat) (k:Nat->Option Bool):Nat->Nat->Option Bool
 | 0,_=>none
 | o+1,f=>(j.l[b]?).bind fun p=>bif (decide (((f:Nat):Int)<((p.aO.l.length:Nat):Int))) then((j.l[b]?).bind fun q=>(q.aO.l[f]?).bind fun g=>(uI g.ai).bind fun i=>aN (!(!i)) (w_ g.eU) false fun m=>aN (!((!i)||(!m))) (AD g.eU) false fun r=>bif (((!i)||(!m))||(!r)) then(some false) else((sr j b k o) (f+1))) else(sn b k )
def nr (b:(Sl aL)) :Nat->Nat->Option Bool
 | 0,_=>none
 | i+1,f=>bif (decide (((f:Nat):Int)<((b.l.length:Nat):Int))) then((b.l[f]?).bind fun j=>(uI j.ai).bind fun g=>aN (!(!g)) (b.l[f]?) aL.zero fun k=>bif ((!g)||(decide ((16:Int)<((k.aO.l.length:Nat):Int)))) then(some false) else(sr b f ((nr b i)) (Option.elim (b.l[f]?) 1 (fun m=>m.aO.l.length+1)) 0)) else(sj   )
def xe (b:(Sl aL)):Option Bool:=bif (decide ((16:Int)<((b.l.length:Nat):Int))) then(some false) else(nr b (b.l.length+1) 0)
theorem xf {g:Sl aL}{w0:Option Nat}{r:Bool}(b:xe g=some r) (H:ah) :AC Tryz.prog 92 [.d (Sl.d 2 aL.c w0 g)] H fun v h'=>v=.a (.d (.bool r))/\h'=H:=by
 unfold xe at b;refine AC.oW 65 [.tmp 2] Tryz.call92 Tryz.func92 ?_;refine af (S As (nil ?_));refine ay fun C t=>?_;refine af (S Mv ?_);refine sLen (f:=aL.c) (s:=g) (TK rfl) rfl rfl rfl rfl fun ae=>?_;refine S BI (nil ?_);refine cE b (fun E b=>?_) (fun E b=>?_)
 ·refine af (S As (nil ?_));exact rt b
 refine sk t ?_;clear t C;refine aT kN (fun(z:Unit)=>[]) (fun z=>H) (fun z=>sj =some r) ?_ ?_
 ·intro ai F;refine af (S As (nil ?_));refine block ?_;refine bx (TA 0 kN) (fun(z:Nat×Nat)=>[(3,.a (.d (.int .i64 ((z.2:Nat):Int))))]) (fun z=>H) (fun z=>z.1) (fun z=>nr g z.1 z.2=some r) ((g.l.length+1),0) b wA ?_;rintro ⟨j,i⟩ b aj G;try dsimp only at b
  cases j with
  | zero=>cases b
  | succ j =>
    rw [nr] at b;refine ay fun I u=>?_;refine af (S Mv (S Mv ?_));refine sLen (f:=aL.c) (s:=g) (TK rfl) rfl rfl rfl rfl fun ak=>?_;refine S BI (nil ?_);refine cE b (fun m b=>?_) (fun m b=>?_)
    ·try dsimp only at m
     have al:=oD m;refine sk u ?_;clear u I;refine aT (TA 0 (TA 3 kN)) (fun(z:Unit)=>[]) (fun z=>H) (fun z=>sn i ((nr g j)) =some r) ?_ ?_
     ·intro am J;refine block ?_;refine ay fun K w=>?_;refine af (S Mv (S Mv ?_));obtain⟨an,L,b⟩:=bO b;refine S (ix aL.c i L) (S Fv (S Ld ?_));obtain⟨ao,M,b⟩:=bO b;refine Sc rfl rfl (jq M) ?_;refine S NB (S Mv (G0 Mv (G0 Mv ?_)));obtain⟨N,O,b⟩:=gO b;refine gC rfl rfl (fun hC=>aG (k:=23) rfl (aG (k:=24) rfl (eR (f:=aL.c) (n:=i) (TK rfl) rfl (TK rfl) rfl rfl rfl (O hC)))) rfl ?_
      refine G1 25 rfl Fv ?_;refine G1 26 rfl Ld ?_;refine gC rfl rfl (fun hC=>aG (k:=27) rfl (cZ (f:=aD.c) (s:=N.aO) (TK rfl) rfl rfl rfl)) rfl ?_;refine G1 28 rfl BI ?_;refine S PO (nil ?_);refine cE b (fun P b=>?_) (fun P b=>?_)
      ·refine af (S As (nil ?_));exact rt b
      refine sk w ?_;clear w K;refine af (S As (nil ?_));refine block ?_;refine bx (TA 0 (TA 3 kN)) (fun(z:Nat×Nat)=>[(4,.a (.d (.int .i64 ((z.2:Nat):Int))))]) (fun z=>H) (fun z=>z.1) (fun z=>sr g i ((nr g j)) z.1 z.2=some r) ((Option.elim (g.l[i]?) 1 (fun o=>o.aO.l.length+1)),0) b wA ?_;rintro ⟨p,x⟩ b ap Q;try dsimp only at b
      cases p with
      | zero=>cases b
      | succ p =>
        rw [sr] at b;refine ay fun R y=>?_;refine af (S Mv (S Mv (S Mv ?_)));obtain⟨o,U,b⟩:=bO b;refine S (ix aL.c i U) (S Fv (S Ld ?_));refine sLen (f:=aD.c) (s:=o.aO) (TK rfl) rfl rfl rfl rfl fun aq=>?_;refine S BI (nil ?_);refine cE b (fun q b=>?_) (fun q b=>?_)
        ·try dsimp only at q
         have au:=oD q;refine sk y ?_;clear y R;refine ay fun W B=>?_;refine block ?_;refine af (S Mv (S Mv ?_));obtain⟨av,X,b⟩:=bO b;refine S (ix aL.c i X) (S Fv (S Ld (S Mv ?_)));obtain⟨aw,Y,b⟩:=bO b;refine S (ix aD.c x Y) (S Ld ?_);refine Sl ?_;refine Sf ?_;refine nil ?_;refine bu 5 _ rfl (KA 0 (KA 3 (KA 4 aS.nil))) ?_;refine af (S Fv (S Ld ?_))
         obtain⟨ax,Z,b⟩:=bO b;refine Sc rfl rfl (jq Z) ?_;refine S NB (S Mv (G0 Fv ?_));refine G1 54 rfl Ld ?_;obtain⟨az,aa,b⟩:=gO b;refine dA 55 rfl rfl rfl rfl rfl (fun hC=>G5 (aa hC)) ?_;refine G1 56 rfl NB ?_;refine S PO (S Mv (G0 Fv ?_));refine G1 60 rfl Ld ?_;obtain⟨aA,ab,b⟩:=gO b;refine dA 61 rfl rfl rfl rfl rfl (fun hC=>G7 (ab hC)) ?_;refine G1 62 rfl NB ?_
         refine S PO (nil ?_);refine cE b (fun ad b=>?_) (fun ad b=>?_)
         ·refine af (S As (nil ?_));exact rt b
         refine sk B ?_;clear B W;refine region ?_;refine S Mv ?_;refine SI ?_;refine S As (nil ?_);exact Q _ (p,(x+1)) wA b (nS _)
        refine ag.exit ?_;exact J _ () wA b
     rintro _ b;try dsimp only at b
     unfold sn at b;refine region ?_;refine S Mv ?_;refine SI ?_;refine S As (nil ?_);exact G _ (j,(i+1)) wA b (nS _)
    refine ag.exit ?_;exact F _ () wA b
 rintro _ b;try dsimp only at b
 unfold sj at b;refine af (S As (nil ?_));exact rt b
def qy (g:aL):List aD->Option (Unit ⊕ Bool)
 | []=>some (Sum.inl ())
 | j::k=>on (g) fun m=>on (j) fun b=>on (eE b.ai) fun f=>aN (!(!f)) (gH b.eU) false fun i=>aN (!((!f)||(!i))) (xd b.eU) false fun l=>bif (((!f)||(!i))||(!l)) then(some (Sum.inr false)) else(qy g (k) )
theorem Pt {q:Sl aL}{j:Nat}{m:Nat->Option Bool}{i:aL}(o:q.l[j]?=some i) (k:(Unit ⊕ Bool)->Option Bool) (r:∀(b:Nat) (f:Nat),sn j m =k (Sum.inl ())) (s:∀e:Bool,some e=k (Sum.inr e)):∀(b:Nat) (f:Nat),(0<b/\i.aO.l.length<f+b)->sr q j m b f=Option.bind (qy i (i.aO.l.drop f) ) k:=by
 intro b;induction b with
 | zero=>intro f hn; exact absurd hn.1 (by omega)
 | succ b t =>
  intro f hn;rw [sr];refine Q.preB o fun u v=>?_;subst v;by_cases aY:f<u.aO.l.length
  ·obtain⟨w,g⟩:=Qa aY;rw [Q.jQ g,qy];refine QT aY ?_;refine Q.m_ o fun x p=>?_;refine Q.m_ (by first|exact g|(simp only [p]; exact g)|(simp only [p] at g ⊢; exact g)) fun y z=>?_;refine Q.m_ (jo _) fun B C=>?_;refine Q.Gs (G4 _) fun E=>?_;refine Q.Gs (G8 _) fun F=>?_;refine Q.mZ ?_ ?_
   ·all_goals exact s _
   all_goals exact t _ ⟨by omega,by omega⟩
  rw [dL (by omega),qy];refine QF aY ?_;exact r b f
def qz :List aL->Option (Unit ⊕ Bool)
 | []=>some (Sum.inl ())
 | b::g=>on (b) fun i=>on (eE i.ai) fun f=>on (bif !(!f) then b else aL.zero) fun j=>bif ((!f)||(decide ((16:Int)<((j.aO.l.length:Nat):Int)))) then(some (Sum.inr false)) else(Option.bind (qy b b.aO.l ) fun k=>match k with|Sum.inl _=>(on (()) fun _=>qz  (g) )|Sum.inr m=>(some (Sum.inr m)))
theorem Pu {i:Sl aL}(j:(Unit ⊕ Bool)->Option Bool) (o:∀(b:Nat) (f:Nat),sj   =j (Sum.inl ())) (k:∀e:Bool,some e=j (Sum.inr e)):∀(b:Nat) (f:Nat),(0<b/\i.l.length<f+b)->nr i b f=Option.bind (qz  (i.l.drop f) ) j:=by
 intro b;induction b with
 | zero=>intro f hn; exact absurd hn.1 (by omega)
 | succ b p =>
  intro f hn;rw [nr];by_cases aY:f<i.l.length
  ·obtain⟨u,g⟩:=Qa aY;rw [Q.jQ g,qz];refine QT aY ?_;refine Q.m_ g fun v w=>?_;refine Q.m_ (jo _) fun x y=>?_;refine Q.OC g fun z B=>?_;refine Q.mZ ?_ ?_
   ·all_goals exact k _
   refine Q.rV fun q m=>?_;refine Pt g q ?_ ?_ _ _ ⟨by rw [g]; exact Nat.succ_pos _,by rw [g]; simp only [Option.elim]; omega⟩
   ·intro C E;refine Qe (m _) ?_;try dsimp only
    refine Q.rU fun r s=>?_;have t:sn f (nr i b) =r ():=by
     refine Qe (s _) ?_;unfold sn;all_goals exact p _ ⟨by omega,by omega⟩
    all_goals exact t
   intro F;refine Qe (m _) ?_;try dsimp only
   all_goals exact k _
  rw [dL (by omega),qz];refine QF aY ?_;exact o b f
def oG (b:(Sl aL)):Option Bool:=bif (decide ((16:Int)<((b.l.length:Nat):Int))) then(some false) else(Option.bind (qz  b.l ) fun f=>match f with|Sum.inl _=>(on (()) fun _=>some true)|Sum.inr g=>(some g))
theorem xg (a0:(Sl aL)):xe a0=oG a0:=by
 unfold xe oG;refine Qs ?_;refine Q.mZ ?_ ?_
 ·all_goals rfl
 refine Q.rV fun f b=>?_;refine Pu  f ?_ ?_ _ _ ⟨Nat.succ_pos _,by omega⟩
 ·intro k l;refine Qe (b _) ?_;try dsimp only
  refine Q.rU fun g i=>?_;have j:sj  =g ():=by
   refine Qe (i _) ?_;unfold sj;all_goals rfl
  all_goals exact j
 intro m;refine Qe (b _) ?_;try dsimp only
 all_goals rfl
def oH (j:az):List Int->Nat->Option (Unit ⊕ Bool)
 | [],b=>some (Sum.inl ())
 | f::k,b=>on (f) fun i=>on (bif (!decide (i=(1:Int))) then f else(0:Int)) fun m=>bif ((!decide (i=(1:Int)))&&(!decide (m=(2:Int)))) then(some (Sum.inr false)) else(on (bif (decide ((0:Int)<((b:Nat):Int))) then f else(0:Int)) fun g=>aN (((decide ((0:Int)<((b:Nat):Int)))&&(decide (g=(1:Int))))) (qh ((b:Nat):Int) (1:Int)) (0:Int) fun o=>aN (((decide ((0:Int)<((b:Nat):Int)))&&(decide (g=(1:Int))))) (bV j.aK.l o) (0:Int) fun p=>bif (((decide ((0:Int)<((b:Nat):Int)))&&(decide (g=(1:Int))))&&(decide (p=(1:Int)))) then(some (Sum.inr false)) else(oH j (k) (b+1) ))
def qA (b:az):Option Bool:=on (eE b.ai) fun f=>bif ((!f)||(decide ((24:Int)<((b.aK.l.length:Nat):Int)))) then(some false) else(Option.bind (oH b b.aK.l 0 ) fun g=>match g with|Sum.inl _=>(on (()) fun _=>some true)|Sum.inr i=>(some i))
def AE (b:az):Option Bool:=qA b
theorem G9 (a0:az):AE a0=qA a0:=rfl
theorem G_ {g:az}{r:Bool}(b:AE g=some r) (H:ah) :AC Tryz.prog 147 [.agg (az.c g)] H fun v h'=>v=.a (.d (.bool r))/\h'=H:=by
 unfold AE qA at b;refine AC.oW 54 [.tmp 2] Tryz.call147 Tryz.func147 ?_;refine af (S BX (S As (nil ?_)));refine ay fun x p=>?_;refine af (S Fv (S Ld ?_));obtain⟨R,y,b⟩:=vT (jo _) b;refine Sc rfl rfl (jq y) ?_;refine S NB (S Mv (G0 Fv ?_));refine G1 9 rfl Ld ?_;refine gC rfl rfl (fun hC=>aG (k:=10) rfl (cZ (f:=(bp .i64)) (s:=g.aK) (TK rfl) rfl rfl rfl)) rfl ?_
 refine G1 11 rfl BI ?_;refine S PO (nil ?_);refine cE b (fun B b=>?_) (fun B b=>?_)
 ·refine af (S As (nil ?_));exact rt b
 refine sk p ?_;clear p x;refine aT kN (fun(z:Unit)=>[]) (fun z=>H) (fun z=>(some true)=some r) ?_ ?_
 ·intro U C;refine af (S As (nil ?_));refine block ?_;obtain⟨q,m,b⟩:=cB b;refine bx (TA 1 kN) (fun(z:Nat)=>[(3,.a (.d (.int .i64 ((z:Nat):Int))))]) (fun z=>H) (fun z=>g.aK.l.length-z) (fun z=>Option.bind (oH g (g.aK.l.drop z) z ) q=some r) 0 b wA ?_;rintro i b W E;try dsimp only at b
  refine ay fun F t=>?_;refine af (S Mv (S Fv (S Ld ?_)));refine sLen (f:=(bp .i64)) (s:=g.aK) (TK rfl) rfl rfl rfl rfl fun X=>?_;refine S BI (nil ?_);refine ag.cA (fun l=>Option.bind (oH g l i ) q=some r) b rfl (fun Y j o b=>?_) (fun o b=>?_)
  ·rw [oH] at b;try dsimp only at o
   have Z:=oD o;refine sk t ?_;clear t F;refine ay fun G u=>?_;refine block ?_;refine ay fun I w=>?_;refine af (S Fv (S Ld (S Mv ?_)));obtain⟨aa,J,b⟩:=vO j b;refine S (ix (bp .i64) i J) ?_;refine S Ld (S BI (S Mv (G0 Fv ?_)));refine G1 28 rfl Ld ?_;refine G0 Mv ?_;obtain⟨ab,K,b⟩:=fc (fun _=>j) b;refine gC rfl rfl (fun hC=>aG (k:=29) rfl (aG (k:=30) rfl (eR (f:=(bp .i64)) (n:=i) (TK rfl) rfl (TK rfl) rfl rfl rfl (K hC)))) rfl ?_
   refine G1 31 rfl Ld ?_;refine G1 32 rfl BI ?_;refine S PA (nil ?_);refine cO b (fun L b=>?_) (fun L b=>?_)
   ·refine af (S As (nil ?_));refine ag.ret ?_;repeat (first|refine bK ?_|refine bL ?_)
    have b:=ku m b;obtain rfl:=oJ b;refine bz.bJ H rfl ⟨rfl,rfl⟩ ?_;exact(fun _ _ h=>h)
   refine sk w ?_;clear w I;refine af (S Mv (S BI (S Mv (G0 Fv ?_))));refine G1 38 rfl Ld ?_;refine G0 Mv ?_;obtain⟨ad,M,b⟩:=fc (fun _=>j) b;refine gC rfl rfl (fun hC=>aG (k:=39) rfl (aG (k:=40) rfl (eR (f:=(bp .i64)) (n:=i) (TK rfl) rfl (TK rfl) rfl rfl rfl (M hC)))) rfl ?_;refine G1 41 rfl Ld ?_;refine G1 42 rfl BI ?_;refine S PA (S Mv (G0 Fv ?_));refine G1 46 rfl Ld ?_
   refine G0 Mv ?_;obtain⟨ae,N,b⟩:=eA rfl b;refine gC rfl rfl (fun hC=>aG (k:=48) rfl (FT rfl rfl (N hC))) rfl ?_;obtain⟨ai,O,b⟩:=eA rfl b;refine gC rfl rfl (fun hC=>aG (k:=47) rfl (aG (k:=49) rfl (fu (f:=(bp .i64)) (TK rfl) rfl (TK rfl) rfl rfl rfl (O hC)))) rfl ?_;refine G1 50 rfl Ld ?_;refine G1 51 rfl BI ?_;refine S PA (nil ?_);refine cO b (fun P b=>?_) (fun P b=>?_)
   ·refine af (S As (nil ?_));refine ag.ret ?_;repeat (first|refine bK ?_|refine bL ?_)
    have b:=ku m b;obtain rfl:=oJ b;refine bz.bJ H rfl ⟨rfl,rfl⟩ ?_;exact(fun _ _ h=>h)
   refine sk u ?_;clear u G;refine region ?_;refine S Mv ?_;refine SI ?_;refine S As (nil ?_);exact E _ (i+1) wA b (dl j)
  rw [oH] at b;have b:=ku m b;try dsimp only at b
  refine ag.exit ?_;obtain⟨aj,Q,b⟩:=bW b;have b:=ku Q b;exact C _ () wA b
 rintro _ b;try dsimp only at b
 refine af (S As (nil ?_));exact rt b
def uJ (b:aa):Bool:=(((((decide (b.an=(0:Int)))&&(decide (b.aV=(0:Int))))&&((b.aR==([]:Bs))))&&(decide (((b.av.l.length:Nat):Int)=(0:Int))))&&(decide (((b.aF.l.length:Nat):Int)=(0:Int))))
def AF (b:aa):Option Bool:=some (uJ b)
theorem Pv (a0:aa):AF a0=some (uJ a0):=rfl
theorem Pw {b:aa}{r:Bool}(g:AF b=some r) (H:ah) :AC Tryz.prog 148 [.agg (aa.c b)] H fun v h'=>v=.a (.d (.bool r))/\h'=H:=by
 unfold AF uJ at g;refine AC.oW 28 [.tmp 2] Tryz.call148 Tryz.func148 ?_;refine af (S BX (S As (nil ?_)));refine af (S Fv (S Ld (S BI (S Mv (G0 Fv ?_)))));refine G1 7 rfl Ld ?_;refine G1 8 rfl BI ?_;refine S PA (S Mv (G0 Fv ?_));refine G1 12 rfl Ld ?_;refine G1 13 rfl BS ?_;refine S PA (S Mv (G0 Fv ?_));refine gC rfl rfl (fun hC=>aG (k:=17) rfl (bS (TK rfl) rfl rfl (congrArg (fun x=>some (A.d x)) (aa.dm _)))) rfl ?_
 refine gC rfl rfl (fun hC=>aG (k:=18) rfl (cZ (f:=aa.c) (s:=b.av) (TK rfl) rfl rfl rfl)) rfl ?_;refine G1 19 rfl BI ?_;refine S PA (S Mv (G0 Fv ?_));refine G1 23 rfl Ld ?_;refine gC rfl rfl (fun hC=>aG (k:=24) rfl (cZ (f:=aP) (s:=b.aF) (TK rfl) rfl rfl rfl)) rfl ?_;refine G1 25 rfl BI ?_;refine S PA (S As (nil ?_));exact rt g
def jV :List Z8->Option (Unit ⊕ Bool)
 | []=>some (Sum.inl ())
 | k::l=>on (k) fun b=>on (eE b.ai) fun f=>aN (!(!f)) (qA b.aJ) false fun i=>aN (!((!f)||(!i))) (oG b.ck) false fun m=>bif (((!f)||(!i))||(!m)) then(some (Sum.inr false)) else(aN (b.c_) (gH b.dy) false fun g=>aN ((b.c_&&!(!g))) (xd b.dy) false fun j=>on (bif (!(b.c_&&((!g)||(!j)))&&(!b.c_)) then uJ b.dy else false) fun o=>bif ((b.c_&&((!g)||(!j)))||((!b.c_)&&(!o))) then(some (Sum.inr false)) else(jV  (l) ))
def gZ (b:(Sl Z8)):Option Bool:=bif (decide ((16:Int)<((b.l.length:Nat):Int))) then(some false) else(Option.bind (jV  b.l ) fun f=>match f with|Sum.inl _=>(on (()) fun _=>some true)|Sum.inr g=>(some g))
def AG (b:(Sl Z8)):Option Bool:=gZ b
theorem He (a0:(Sl Z8)):AG a0=gZ a0:=rfl
theorem Hf {g:Sl Z8}{w0:Option Nat}{r:Bool}(b:AG g=some r) (H:ah) :AC Tryz.prog 95 [.d (Sl.d 10 Z8.c w0 g)] H fun v h'=>v=.a (.d (.bool r))/\h'=H:=by
 unfold AG gZ at b;refine AC.oW 59 [.tmp 2] Tryz.call95 Tryz.func95 ?_;refine af (S As (nil ?_));refine ay fun x m=>?_;refine af (S Mv ?_);refine sLen (f:=Z8.c) (s:=g) (TK rfl) rfl rfl rfl rfl fun U=>?_;refine S BI (nil ?_);refine cE b (fun y b=>?_) (fun y b=>?_)
 ·refine af (S As (nil ?_));exact rt b
 refine sk m ?_;clear m x;refine aT kN (fun(z:Unit)=>[]) (fun z=>H) (fun z=>(some true)=some r) ?_ ?_
 ·intro W B;refine af (S As (nil ?_));refine block ?_;obtain⟨o,i,b⟩:=cB b;refine bx (TA 0 kN) (fun(z:Nat)=>[(3,.a (.d (.int .i64 ((z:Nat):Int))))]) (fun z=>H) (fun z=>g.l.length-z) (fun z=>Option.bind (jV  (g.l.drop z) ) o=some r) 0 b wA ?_;rintro p b X C;try dsimp only at b
  refine ay fun E q=>?_;refine af (S Mv (S Mv ?_));refine sLen (f:=Z8.c) (s:=g) (TK rfl) rfl rfl rfl rfl fun Y=>?_;refine S BI (nil ?_);refine ag.cA (fun l=>Option.bind (jV  l ) o=some r) b rfl (fun Z t j b=>?_) (fun j b=>?_)
  ·rw [jV] at b;try dsimp only at j
   have aa:=oD j;refine sk q ?_;clear q E;refine ay fun F u=>?_;refine block ?_;refine af (S Mv (S Mv ?_));obtain⟨ab,G,b⟩:=vO t b;refine S (ix Z8.c p G) (S Ld ?_);refine Sl ?_;refine Sf ?_;refine nil ?_;refine bu 4 _ rfl (KA 0 (KA 3 aS.nil)) ?_;refine ay fun I w=>?_;refine af (S Fv (S Ld ?_));obtain⟨ad,J,b⟩:=vO (jo _) b
   refine Sc rfl rfl (jq J) ?_;refine S NB (S Mv (G0 Fv ?_));refine G1 23 rfl Ld ?_;obtain⟨ae,K,b⟩:=eA (G9 _) b;refine dA 24 rfl rfl rfl rfl rfl (fun hC=>G_ (K hC)) ?_;refine G1 25 rfl NB ?_;refine S PO (S Mv (G0 Fv ?_));refine G1 29 rfl Ld ?_;obtain⟨ai,L,b⟩:=eA (xg _) b;refine dA 30 rfl rfl rfl rfl rfl (fun hC=>xf (L hC)) ?_;refine G1 31 rfl NB ?_
   refine S PO (nil ?_);refine cO b (fun M b=>?_) (fun M b=>?_)
   ·refine af (S As (nil ?_));refine ag.ret ?_;repeat (first|refine bK ?_|refine bL ?_)
    have b:=ku i b;obtain rfl:=oJ b;refine bz.bJ H rfl ⟨rfl,rfl⟩ ?_;exact(fun _ _ h=>h)
   refine sk w ?_;clear w I;refine af (S Fv (S Ld (S Mv (G0 Fv ?_))));refine G1 37 rfl Ld ?_;obtain⟨aj,N,b⟩:=eA (G4 _) b;refine dA 38 rfl rfl rfl rfl rfl (fun hC=>G5 (N hC)) ?_;refine G1 39 rfl NB ?_;refine G1 40 rfl Mv ?_;refine G0 Fv ?_;refine G1 42 rfl Ld ?_;obtain⟨ak,O,b⟩:=eA (G8 _) b;refine dA 43 rfl rfl rfl rfl rfl (fun hC=>G7 (O hC)) ?_;refine G1 44 rfl NB ?_
   refine gC rfl rfl (fun hC=>aG (k:=41) rfl (qk rfl rfl rfl)) rfl ?_;refine S PA (S Mv (G0 Fv ?_));refine G1 49 rfl Ld ?_;refine G1 50 rfl NB ?_;refine G1 51 rfl Mv ?_;refine G0 Fv ?_;refine G1 53 rfl Ld ?_;obtain⟨al,P,b⟩:=fc (fun _=>(Pv _)) b;refine dA 54 rfl rfl rfl rfl rfl (fun hC=>Pw (P hC)) ?_;refine G1 55 rfl NB ?_;refine gC rfl rfl (fun hC=>aG (k:=52) rfl (fV rfl rfl rfl)) rfl ?_
   refine S PO (nil ?_);refine cO b (fun Q b=>?_) (fun Q b=>?_)
   ·refine af (S As (nil ?_));refine ag.ret ?_;repeat (first|refine bK ?_|refine bL ?_)
    have b:=ku i b;obtain rfl:=oJ b;refine bz.bJ H rfl ⟨rfl,rfl⟩ ?_;exact(fun _ _ h=>h)
   refine sk u ?_;clear u F;refine region ?_;refine S Mv ?_;refine SI ?_;refine S As (nil ?_);exact C _ (p+1) wA b (dl t)
  rw [jV] at b;have b:=ku i b;try dsimp only at b
  refine ag.exit ?_;obtain⟨am,R,b⟩:=bW b;have b:=ku R b;exact B _ () wA b
 rintro _ b;try dsimp only at b
 refine af (S As (nil ?_));exact rt b
def k9 :List Z6->Option (Unit ⊕ Bool)
 | []=>some (Sum.inl ())
 | g::j=>on (g) fun k=>on (eE k.ai) fun b=>on (bif !(!b) then g else Z6.zero) fun l=>aN (!(!b)) (gZ l.aO) false fun f=>on (bif !((!b)||(!f)) then g else Z6.zero) fun m=>aN (!((!b)||(!f))) (qA m.aJ) false fun i=>on (bif !(((!b)||(!f))||(!i)) then g else Z6.zero) fun o=>aN (!(((!b)||(!f))||(!i))) (oG o.ck) false fun p=>bif ((((!b)||(!f))||(!i))||(!p)) then(some (Sum.inr false)) else(k9  (j) )
def jW (b:(Sl Z6)):Option Bool:=bif ((decide (((b.l.length:Nat):Int)<(1:Int)))||(decide ((64:Int)<((b.l.length:Nat):Int)))) then(some false) else(Option.bind (k9  b.l ) fun f=>match f with|Sum.inl _=>(on (()) fun _=>some true)|Sum.inr g=>(some g))
def AH (b:(Sl Z6)):Option Bool:=jW b
theorem Hg (a0:(Sl Z6)):AH a0=jW a0:=rfl
theorem Hh {g:Sl Z6}{w0:Option Nat}{r:Bool}(b:AH g=some r) (H:ah) :AC Tryz.prog 93 [.d (Sl.d 5 Z6.c w0 g)] H fun v h'=>v=.a (.d (.bool r))/\h'=H:=by
 unfold AH jW at b;refine AC.oW 52 [.tmp 2] Tryz.call93 Tryz.func93 ?_;refine af (S As (nil ?_));refine ay fun w o=>?_;refine af (S Mv ?_);refine sLen (f:=Z6.c) (s:=g) (TK rfl) rfl rfl rfl rfl fun Q=>?_;refine S BI (S Mv (G0 Mv ?_));refine gC rfl rfl (fun hC=>aG (k:=8) rfl (cZ (f:=Z6.c) (s:=g) (TK rfl) rfl rfl rfl)) rfl ?_;refine G1 9 rfl BI ?_;refine S PO (nil ?_);refine cE b (fun x b=>?_) (fun x b=>?_)
 ·refine af (S As (nil ?_));exact rt b
 refine sk o ?_;clear o w;refine aT kN (fun(z:Unit)=>[]) (fun z=>H) (fun z=>(some true)=some r) ?_ ?_
 ·intro R y;refine af (S As (nil ?_));refine block ?_;obtain⟨p,q,b⟩:=cB b;refine bx (TA 0 kN) (fun(z:Nat)=>[(3,.a (.d (.int .i64 ((z:Nat):Int))))]) (fun z=>H) (fun z=>g.l.length-z) (fun z=>Option.bind (k9  (g.l.drop z) ) p=some r) 0 b wA ?_;rintro i b U B;try dsimp only at b
  refine ay fun C t=>?_;refine af (S Mv (S Mv ?_));refine sLen (f:=Z6.c) (s:=g) (TK rfl) rfl rfl rfl rfl fun W=>?_;refine S BI (nil ?_);refine ag.cA (fun l=>Option.bind (k9  l ) p=some r) b rfl (fun X j m b=>?_) (fun m b=>?_)
  ·rw [k9] at b;try dsimp only at m
   have Y:=oD m;refine sk t ?_;clear t C;refine ay fun E u=>?_;refine block ?_;refine af (S Mv (S Mv ?_));obtain⟨Z,F,b⟩:=vO j b;refine S (ix Z6.c i F) (S Fv (S Ld ?_));obtain⟨aa,G,b⟩:=vO (jo _) b;refine Sc rfl rfl (jq G) ?_;refine S NB (S Mv (G0 Mv (G0 Mv ?_)));obtain⟨ab,I,b⟩:=fc (fun _=>j) b;refine gC rfl rfl (fun hC=>aG (k:=26) rfl (aG (k:=27) rfl (eR (f:=Z6.c) (n:=i) (TK rfl) rfl (TK rfl) rfl rfl rfl (I hC)))) rfl ?_
   refine G1 28 rfl Fv ?_;refine G1 29 rfl Ld ?_;obtain⟨ad,J,b⟩:=eA (He _) b;refine dA 30 rfl rfl rfl rfl rfl (fun hC=>Hf (J hC)) ?_;refine G1 31 rfl NB ?_;refine S PO (S Mv (G0 Mv (G0 Mv ?_)));obtain⟨ae,K,b⟩:=fc (fun _=>j) b;refine gC rfl rfl (fun hC=>aG (k:=35) rfl (aG (k:=36) rfl (eR (f:=Z6.c) (n:=i) (TK rfl) rfl (TK rfl) rfl rfl rfl (K hC)))) rfl ?_
   refine G1 37 rfl Fv ?_;refine G1 38 rfl Ld ?_;obtain⟨ai,L,b⟩:=eA (G9 _) b;refine dA 39 rfl rfl rfl rfl rfl (fun hC=>G_ (L hC)) ?_;refine G1 40 rfl NB ?_;refine S PO (S Mv (G0 Mv (G0 Mv ?_)));obtain⟨aj,M,b⟩:=fc (fun _=>j) b;refine gC rfl rfl (fun hC=>aG (k:=44) rfl (aG (k:=45) rfl (eR (f:=Z6.c) (n:=i) (TK rfl) rfl (TK rfl) rfl rfl rfl (M hC)))) rfl ?_
   refine G1 46 rfl Fv ?_;refine G1 47 rfl Ld ?_;obtain⟨ak,N,b⟩:=eA (xg _) b;refine dA 48 rfl rfl rfl rfl rfl (fun hC=>xf (N hC)) ?_;refine G1 49 rfl NB ?_;refine S PO (nil ?_);refine cO b (fun O b=>?_) (fun O b=>?_)
   ·refine af (S As (nil ?_));refine ag.ret ?_;repeat (first|refine bK ?_|refine bL ?_)
    have b:=ku q b;obtain rfl:=oJ b;refine bz.bJ H rfl ⟨rfl,rfl⟩ ?_;exact(fun _ _ h=>h)
   refine sk u ?_;clear u E;refine region ?_;refine S Mv ?_;refine SI ?_;refine S As (nil ?_);exact B _ (i+1) wA b (dl j)
  rw [k9] at b;have b:=ku q b;try dsimp only at b
  refine ag.exit ?_;obtain⟨al,P,b⟩:=bW b;have b:=ku P b;exact y _ () wA b
 rintro _ b;try dsimp only at b
 refine af (S As (nil ?_));exact rt b
def oI (g:Bool):List Z9->Option (Unit ⊕ Bool)
 | []=>some (Sum.inl ())
 | f::j=>on (f) fun k=>on (eE k.ai) fun b=>on (bif !(!b) then f else Z9.zero) fun m=>aN (!(!b)) (oG m.ck) false fun i=>on (bif (!((!b)||(!i))&&g) then f else Z9.zero) fun o=>bif (((!b)||(!i))||(g&&(decide ((0:Int)<((o.ck.l.length:Nat):Int))))) then(some (Sum.inr false)) else(oI g (j) )
def k_ (b:(Sl Z9)) (i:Bool):Option Bool:=bif ((decide (((b.l.length:Nat):Int)<(1:Int)))||(decide ((64:Int)<((b.l.length:Nat):Int)))) then(some false) else(Option.bind (oI i b.l ) fun f=>match f with|Sum.inl _=>(on (()) fun _=>some true)|Sum.inr g=>(some g))
def AI (b:(Sl Z9)) (f:Bool):Option Bool:=k_ b f
theorem Hi (a0:(Sl Z9)) (a1:Bool):AI a0 a1=k_ a0 a1:=rfl
theorem Hj {g:Sl Z9}{m:Bool}{w0:Option Nat}{r:Bool}(b:AI g m=some r) (H:ah) :AC Tryz.prog 94 [.d (Sl.d 2 Z9.c w0 g),.d (.bool m)] H fun v h'=>v=.a (.d (.bool r))/\h'=H:=by
 unfold AI k_ at b;refine AC.oW 48 [.tmp 4] Tryz.call94 Tryz.func94 ?_;refine af (S As (nil ?_));refine ay fun x p=>?_;refine af (S Mv ?_);refine sLen (f:=Z9.c) (s:=g) (TK rfl) rfl rfl rfl rfl fun P=>?_;refine S BI (S Mv (G0 Mv ?_));refine gC rfl rfl (fun hC=>aG (k:=10) rfl (cZ (f:=Z9.c) (s:=g) (TK rfl) rfl rfl rfl)) rfl ?_;refine G1 11 rfl BI ?_;refine S PO (nil ?_);refine cE b (fun y b=>?_) (fun y b=>?_)
 ·refine af (S As (nil ?_));exact rt b
 refine sk p ?_;clear p x;refine aT kN (fun(z:Unit)=>[]) (fun z=>H) (fun z=>(some true)=some r) ?_ ?_
 ·intro Q B;refine af (S As (nil ?_));refine block ?_;obtain⟨q,t,b⟩:=cB b;refine bx (TA 0 (TA 1 kN)) (fun(z:Nat)=>[(5,.a (.d (.int .i64 ((z:Nat):Int))))]) (fun z=>H) (fun z=>g.l.length-z) (fun z=>Option.bind (oI m (g.l.drop z) ) q=some r) 0 b wA ?_;rintro i b R C;try dsimp only at b
  refine ay fun E u=>?_;refine af (S Mv (S Mv ?_));refine sLen (f:=Z9.c) (s:=g) (TK rfl) rfl rfl rfl rfl fun U=>?_;refine S BI (nil ?_);refine ag.cA (fun l=>Option.bind (oI m l ) q=some r) b rfl (fun W j o b=>?_) (fun o b=>?_)
  ·rw [oI] at b;try dsimp only at o
   have X:=oD o;refine sk u ?_;clear u E;refine ay fun F w=>?_;refine block ?_;refine af (S Mv (S Mv ?_));obtain⟨Y,G,b⟩:=vO j b;refine S (ix Z9.c i G) (S Fv (S Ld ?_));obtain⟨Z,I,b⟩:=vO (jo _) b;refine Sc rfl rfl (jq I) ?_;refine S NB (S Mv (G0 Mv (G0 Mv ?_)));obtain⟨aa,J,b⟩:=fc (fun _=>j) b;refine gC rfl rfl (fun hC=>aG (k:=28) rfl (aG (k:=29) rfl (eR (f:=Z9.c) (n:=i) (TK rfl) rfl (TK rfl) rfl rfl rfl (J hC)))) rfl ?_
   refine G1 30 rfl Fv ?_;refine G1 31 rfl Ld ?_;obtain⟨ab,K,b⟩:=eA (xg _) b;refine dA 32 rfl rfl rfl rfl rfl (fun hC=>xf (K hC)) ?_;refine G1 33 rfl NB ?_;refine S PO (S Mv (G0 Mv ?_));refine G1 37 rfl Mv ?_;refine G0 Mv (G0 Mv ?_);obtain⟨L,M,b⟩:=fc (fun _=>j) b;refine gC rfl rfl (fun hC=>aG (k:=39) rfl (aG (k:=40) rfl (eR (f:=Z9.c) (n:=i) (TK rfl) rfl (TK rfl) rfl rfl rfl (M hC)))) rfl ?_
   refine G1 41 rfl Fv ?_;refine G1 42 rfl Ld ?_;refine gC rfl rfl (fun hC=>aG (k:=43) rfl (cZ (f:=aL.c) (s:=L.ck) (TK rfl) rfl rfl rfl)) rfl ?_;refine G1 44 rfl BI ?_;refine gC rfl rfl (fun hC=>aG (k:=38) rfl (fV rfl rfl rfl)) rfl ?_;refine S PO (nil ?_);refine cO b (fun N b=>?_) (fun N b=>?_)
   ·refine af (S As (nil ?_));refine ag.ret ?_;repeat (first|refine bK ?_|refine bL ?_)
    have b:=ku t b;obtain rfl:=oJ b;refine bz.bJ H rfl ⟨rfl,rfl⟩ ?_;exact(fun _ _ h=>h)
   refine sk w ?_;clear w F;refine region ?_;refine S Mv ?_;refine SI ?_;refine S As (nil ?_);exact C _ (i+1) wA b (dl j)
  rw [oI] at b;have b:=ku t b;try dsimp only at b
  refine ag.exit ?_;obtain⟨ad,O,b⟩:=bW b;have b:=ku O b;exact B _ () wA b
 rintro _ b;try dsimp only at b
 refine af (S As (nil ?_));exact rt b
end Go.Proofs
