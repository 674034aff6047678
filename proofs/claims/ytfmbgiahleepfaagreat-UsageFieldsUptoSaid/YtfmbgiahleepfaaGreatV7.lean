import Derived.Test.YtfmbgiahleepfaaGreatV6
import Derived.Test.YtfmbgiahleepfaaGreatRows
set_option maxRecDepth 100000
set_option maxHeartbeats 2000000
set_option linter.unusedVariables false
set_option linter.unusedSimpArgs false
namespace Go.Proofs
open Go Go.Ab
def Z41_q36 (a0:TDoc) (a1:Z8) (x23:(Sl TUse)):List Bs->Option (Unit ⊕ Bool)
 | []=>some (Sum.inl ())
 | h36::r36=>on (h36) fun x44=>on (Z33_q a1 x44) fun x45=>guardO (x45.2) (Z42_q a0 x45.1.FSels x45.1.FOn x23) false fun x47=>on (bif (x45.2&&!(!x47)) then Z121_q x23 x45.1.FOn ([]:Bs) ([]:Bs) else(0:Int)) fun x48=>bif (x45.2&&((!x47)||(decide (x48<(1:Int))))) then(some (Sum.inr false)) else(Z41_q36 a0 a1 x23 (r36) )
theorem Z41_l36_qe {a0:TDoc}{a1:Z8}{s5_16:Nat}{x23:(Sl TUse)}{x34:((Sl Bs)×Bool)}{k_next_15:Nat->Option Bool}  (Kb36:(Unit ⊕ Bool)->Option Bool) (hend:∀(n36:Nat) (s9_37:Nat),Z41_j21 s5_16 k_next_15 =Kb36 (Sum.inl ())) (hret:∀e:Bool,some e=Kb36 (Sum.inr e)):∀(n36:Nat) (s9_37:Nat),(0<n36/\x34.1.l.length<s9_37+n36)->Z41_l36 a0 a1 s5_16 x23 x34 k_next_15 n36 s9_37=Option.bind (Z41_q36 a0 a1 x23 (x34.1.l.drop s9_37) ) Kb36:=by
 intro n36;induction n36 with
 | zero=>intro s9_37 hn; exact absurd hn.1 (by omega)
 | succ n36 ih36 =>
  intro s9_37 hn;rw [Z41_l36];by_cases hlt:s9_37<x34.1.l.length
  ·obtain⟨h36,hh36⟩:=Qa hlt;rw [Q.drop_of hh36,Z41_q36];refine QT hlt ?_;refine Q.bindPO hh36 fun x44 hx_x44=>?_;refine Q.bindPO (Z33_eq _ _) fun x45 hx_x45=>?_;refine Q.guardOO (Z42_eq _ _ _ _) fun x47=>?_;refine Q.guardPO (Z121_eq _ _ _ _) fun x48 hx_x48=>?_;refine Q.condO ?_ ?_
   ·all_goals exact hret _
   all_goals exact ih36 _ ⟨by omega,by omega⟩
  rw [dL (by omega),Z41_q36];refine QF hlt ?_;exact hend n36 s9_37
def Z41_q15 (a0:TDoc) (a1:Z8):List TOp->Nat->Option (Unit ⊕ Bool)
 | [],s5_16=>some (Sum.inl ())
 | h15::r15,s5_16=>(Z122_q a0 a1 ((s5_16:Nat):Int)).bind fun x23=>on (h15) fun x26=>on (h15) fun x27=>on (Z82_q x27.FKind) fun x28=>(Z42_q a0 x26.FSels x28 x23).bind fun x29=>bif (!x29) then(some (Sum.inr false)) else(on (h15) fun x33=>(Z34_q a1 x33.FSels).bind fun x34=>Option.bind (Z41_q36 a0 a1 x23 x34.1.l ) fun o36=>match o36 with|Sum.inl _=>(on (()) fun _=>Z41_q15 a0 a1 (r15) (s5_16+1) )|Sum.inr e36=>(some (Sum.inr e36)))
theorem Z41_l15_qe {a0:TDoc}{a1:Z8}  (Kb15:(Unit ⊕ Bool)->Option Bool) (hend:∀(n15:Nat) (s5_16:Nat),Z41_j11   =Kb15 (Sum.inl ())) (hret:∀e:Bool,some e=Kb15 (Sum.inr e)):∀(n15:Nat) (s5_16:Nat),(0<n15/\a1.FOps.l.length<s5_16+n15)->Z41_l15 a0 a1 n15 s5_16=Option.bind (Z41_q15 a0 a1 (a1.FOps.l.drop s5_16) s5_16 ) Kb15:=by
 intro n15;induction n15 with
 | zero=>intro s5_16 hn; exact absurd hn.1 (by omega)
 | succ n15 ih15 =>
  intro s5_16 hn;rw [Z41_l15];by_cases hlt:s5_16<a1.FOps.l.length
  ·obtain⟨h15,hh15⟩:=Qa hlt;rw [Q.drop_of hh15,Z41_q15];refine QT hlt ?_;refine Q.bindO (Z122_eq _ _ _) fun x23=>?_;refine Q.bindPO hh15 fun x26 hx_x26=>?_;refine Q.bindPO hh15 fun x27 hx_x27=>?_;refine Q.bindPO (Z82_eq _) fun x28 hx_x28=>?_;refine Q.bindO (Z42_eq _ _ _ _) fun x29=>?_;refine Q.condO ?_ ?_
   ·all_goals exact hret _
   refine Q.bindPO hh15 fun x33 hx_x33=>?_;refine Q.bindO (Z34_eq _ _) fun x34=>?_;refine Q.wrapOO fun Kb36 hKb36=>?_;refine Z41_l36_qe  Kb36 ?_ ?_ _ _ ⟨Nat.succ_pos _,by omega⟩
   ·intro n36 s9_37;refine Qe (hKb36 _) ?_;try dsimp only
    refine Q.wrapPO fun Kj21 hKj21=>?_;have hj21:Z41_j21 s5_16 (Z41_l15 a0 a1 n15) =Kj21 ():=by
     refine Qe (hKj21 _) ?_;unfold Z41_j21;all_goals exact ih15 _ ⟨by omega,by omega⟩
    all_goals exact hj21
   intro e36;refine Qe (hKb36 _) ?_;try dsimp only
   all_goals exact hret _
  rw [dL (by omega),Z41_q15];refine QF hlt ?_;exact hend n15 s5_16
def Z41_q (a0:TDoc) (a1:Z8):Option Bool:=(Z44_q a0 a1).bind fun x4=>guardO (!(!x4)) (Z75_q a0 true) (Sl.nil:Sl Z3) fun x5=>guardO (!((!x4)||(decide ((0:Int)<((x5.l.length:Nat):Int))))) (Z32_q a0 a1) (Sl.nil:Sl Z3) fun x6=>guardO (!(((!x4)||(decide ((0:Int)<((x5.l.length:Nat):Int))))||(decide ((0:Int)<((x6.l.length:Nat):Int))))) (Z18_q a0 a1) (Sl.nil:Sl Z3) fun x7=>bif ((((!x4)||(decide ((0:Int)<((x5.l.length:Nat):Int))))||(decide ((0:Int)<((x6.l.length:Nat):Int))))||(decide ((0:Int)<((x7.l.length:Nat):Int)))) then((Z43).bind fun x10=>some x10) else(Option.bind (Z41_q15 a0 a1 a1.FOps.l 0 ) fun o15=>match o15 with|Sum.inl _=>(on (()) fun _=>(Z43).bind fun x13=>some x13)|Sum.inr e15=>(some e15))
theorem Z41_eq (a0:TDoc) (a1:Z8):Z41 a0 a1=Z41_q a0 a1:=by
 unfold Z41 Z41_q;refine Qs ?_;refine Q.bindO (Z44_eq _ _) fun x4=>?_;refine Q.guardOO (Z75_eq _ _) fun x5=>?_;refine Q.guardOO (Z32_eq _ _) fun x6=>?_;refine Q.guardOO (Z18_eq _ _) fun x7=>?_;refine Q.condO ?_ ?_
 ·refine Q.bindO rfl fun x10=>?_;all_goals rfl
 refine Q.wrapOO fun Kb15 hKb15=>?_;refine Z41_l15_qe  Kb15 ?_ ?_ _ _ ⟨Nat.succ_pos _,by omega⟩
 ·intro n15 s5_16;refine Qe (hKb15 _) ?_;try dsimp only
  refine Q.wrapPO fun Kj11 hKj11=>?_;have hj11:Z41_j11  =Kj11 ():=by
   refine Qe (hKj11 _) ?_;unfold Z41_j11;refine Q.bindO rfl fun x13=>?_;all_goals rfl
  all_goals exact hj11
 intro e15;refine Qe (hKb15 _) ?_;try dsimp only
 all_goals rfl
end Go.Proofs

namespace Go.Proofs
open Go Go.Ab
theorem Z55_loop (a:TRef) (ha:a.FWraps.l.length<=1048576) (l:List Int) (i:Nat) (h:i+l.length=a.FWraps.l.length):Ok (Z55_q10 a l i):=by
 induction l generalizing i with
 | nil=>exact Tot.some _
 | cons x r ih =>
  simp only [List.length_cons] at h;have hr:=ih (i+1) (by omega);rw [Z55_q10];simp only [on];refine Tot.cond (fun _=>Tot.some _) fun _=>?_;by_cases hi:0<i
  ·have h1:decide ((0:Int)<((i:Nat):Int))=true:=by simpa using hi
   obtain⟨v,hv⟩:=idxC_ok (l:=a.FWraps.l) (n:=(i:Int)-1) (by omega);simp only [h1,cond_true,Bool.true_and,subC_ok (a:=(i:Int)) (b:=1) (by omega)];cases decide (x=1)<;>simp only [guardO,hv,if_true,Option.bind_some,Bool.false_eq_true,if_false,Bool.false_and,cond_false]
   ·exact hr
   ·(repeat' (first|exact Tot.some _|assumption|(with_reducible refine Tot.bind ?_ fun _ _=>?_)|(with_reducible refine Tot.guard (fun _=>?_) fun _ _ _=>?_)|(with_reducible refine Tot.cond (fun _=>?_) fun _=>?_)|(with_reducible refine Tot.on fun _ _=>?_)|split))
  ·have h1:decide ((0:Int)<((i:Nat):Int))=false:=by simpa using hi
   simp only [h1,Bool.false_and,guardO,Bool.false_eq_true,if_false,cond_false];exact hr
theorem Z55_ok (a:TRef) (ha:a.FWraps.l.length<=1048576):Ok (Z55_q a):=by
 unfold Z55_q
 (repeat' (first|exact Tot.some _|assumption|(with_reducible refine Tot.bind ?_ fun _ _=>?_)|(with_reducible refine Tot.guard (fun _=>?_) fun _ _ _=>?_)|(with_reducible refine Tot.cond (fun _=>?_) fun _=>?_)|(with_reducible refine Tot.on fun _ _=>?_)|split))
 exact Z55_loop a ha _ _ (by simp)
theorem Z51_loop (k:Z9->Option Int) (l:List Z9) (s:Int) (hk:∀x∈l,∃r,k x=some r/\1<=r/\r<=x.sz) (hs:0<=s) (hb:s+((l.map Z9.sz).sum:Nat)<=1152921504606846976):∃r,Z51_q7 k l s=some r/\s<=r/\r<=s+((l.map Z9.sz).sum:Nat):=by
 induction l generalizing s with
 | nil=>exact⟨s,rfl,by simp,by simp⟩
 | cons x r ih =>
  obtain⟨v,h1,h2,h3⟩:=hk x List.mem_cons_self;simp only [List.map_cons,List.sum_cons] at hb ⊢;rw [Z51_q7];simp only [on,h1,Option.bind_some];rw [addC_ok (by omega)];simp only [Option.bind_some];obtain⟨w,h4,h5,h6⟩:=ih (s+v) (fun y hy=>hk y (List.mem_cons_of_mem _ hy)) (by omega) (by omega);exact⟨w,h4,by omega,by omega⟩
theorem Z9.item_lt {v x:Z9}(h:x∈v.FItems.l):x.sz<v.sz:=by
 have h1:=v.sz_def; have h2:=Sl.mem_le (f:=Z9.sz) h; omega
theorem Z9.items_sum (v:Z9):2+(v.FItems.l.map Z9.sz).sum<=v.sz:=by
 have h1:=v.sz_def; have h2:Sl.sz Z9.sz v.FItems=1+(v.FItems.l.map Z9.sz).sum:=rfl; omega
theorem Z51_tot (n:Nat):∀v:Z9,v.sz<n->v.sz<=1073741824->∃r,Z51_qn n v=some r/\1<=r/\r<=v.sz:=by
 induction n with
 | zero=>intro v h; omega
 | succ n ih =>
  intro v h hb;have h0:=v.items_sum;obtain⟨w,h4,h5,h6⟩:=Z51_loop (Z51_qn n) v.FItems.l 1 (fun x hx=>by have:=Z9.item_lt hx; exact ih x (by omega) (by omega)) (by omega) (by omega);rw [Z51_qn,h4];exact⟨w,rfl,by omega,by omega⟩
theorem Z51_ok (v:Z9) (h:v.sz<=1048576):∃r,Z51_q v=some r/\1<=r/\r<=v.sz:=Z51_tot F0 v (by rw [F0_eq]; omega) (by omega)
theorem Z49_loop (k:Z9->Option Int) (l:List Z9) (s b:Int) (hk:∀x∈l,∃r,k x=some r/\1<=r/\r<=b) (hs:0<=s/\s<=b):∃r,Z49_q8 k l s=some r/\0<=r/\r<=b:=by
 induction l generalizing s with
 | nil=>exact⟨s,rfl,by omega,by omega⟩
 | cons x r ih =>
  obtain⟨v,h1,h2,h3⟩:=hk x List.mem_cons_self;rw [Z49_q8];simp only [on,h1,Option.bind_some];exact ih _ (fun y hy=>hk y (List.mem_cons_of_mem _ hy)) (by split<;>omega)
theorem Z49_tot (n:Nat):∀v:Z9,v.sz<n->v.sz<=1073741824->∃r,Z49_qn n v=some r/\1<=r/\r<=v.sz:=by
 induction n with
 | zero=>intro v h; omega
 | succ n ih =>
  intro v h hb;have h0:=v.items_sum;obtain⟨w,h4,h5,h6⟩:=Z49_loop (Z49_qn n) v.FItems.l 0 (v.sz-1:Nat) (fun x hx=>by have:=Z9.item_lt hx; obtain⟨r,h7,h8,h9⟩:=ih x (by omega) (by omega); exact⟨r,h7,h8,by omega⟩) (by omega);rw [Z49_qn,h4];simp only [on,Option.bind_some];rw [addC_ok (by omega)];exact⟨w+1,rfl,by omega,by omega⟩
theorem Z49_ok (v:Z9) (h:v.sz<=1048576):Ok (Z49_q v):=by
 obtain⟨r,hr,_⟩:=Z49_tot F0 v (by rw [F0_eq]; omega) (by omega); exact⟨r,hr⟩
theorem Z53_in (a:Sl Bs) (x:Bs) (m i:Nat) (h:i+m<=a.l.length):Ok (Z53_q13 a x m i):=by
 induction m generalizing i with
 | zero=>exact Tot.some _
 | succ m ih =>
  rw [Z53_q13]
  (repeat' (first|exact Tot.some _|assumption|(with_reducible refine Tot.bind ?_ fun _ _=>?_)|(with_reducible refine Tot.guard (fun _=>?_) fun _ _ _=>?_)|(with_reducible refine Tot.cond (fun _=>?_) fun _=>?_)|(with_reducible refine Tot.on fun _ _=>?_)|split))
  ·exact get_ok (by omega)
  ·exact ih _ (by omega)
theorem Z53_out (a:Sl Bs) (l:List Bs) (i:Nat) (h:i+l.length=a.l.length):Ok (Z53_q5 a l i):=by
 induction l generalizing i with
 | nil=>exact Tot.some _
 | cons x r ih =>
  simp only [List.length_cons] at h;rw [Z53_q5]
  (repeat' (first|exact Tot.some _|assumption|(with_reducible refine Tot.bind ?_ fun _ _=>?_)|(with_reducible refine Tot.guard (fun _=>?_) fun _ _ _=>?_)|(with_reducible refine Tot.cond (fun _=>?_) fun _=>?_)|(with_reducible refine Tot.on fun _ _=>?_)|split))
  ·exact Z53_in a x _ _ (by omega)
  ·exact ih _ (by omega)
theorem Z53_ok (a:Sl Bs):Ok (Z53_q a):=by
 unfold Z53_q
 (repeat' (first|exact Tot.some _|assumption|(with_reducible refine Tot.bind ?_ fun _ _=>?_)|(with_reducible refine Tot.guard (fun _=>?_) fun _ _ _=>?_)|(with_reducible refine Tot.cond (fun _=>?_) fun _=>?_)|(with_reducible refine Tot.on fun _ _=>?_)|split))
 exact Z53_out a _ _ (by simp)
theorem Z52_ok (v:Z9) (b:Bool):Ok (Z52_q v b):=by
 unfold Z52_q
 (repeat' (first|exact Tot.some _|assumption|(with_reducible refine Tot.bind ?_ fun _ _=>?_)|(with_reducible refine Tot.guard (fun _=>?_) fun _ _ _=>?_)|(with_reducible refine Tot.cond (fun _=>?_) fun _=>?_)|(with_reducible refine Tot.on fun _ _=>?_)|split))
 exact Z53_ok _
theorem Z54_loop (b:Bool) (k:Z9->Bool->Option Bool) (l:List Z9) (hk:∀x∈l,Ok (k x b)):Ok (Z54_q11 b k l):=by
 induction l with
 | nil=>exact Tot.some _
 | cons x r ih =>
  rw [Z54_q11]
  (repeat' (first|exact Tot.some _|assumption|(with_reducible refine Tot.bind ?_ fun _ _=>?_)|(with_reducible refine Tot.guard (fun _=>?_) fun _ _ _=>?_)|(with_reducible refine Tot.cond (fun _=>?_) fun _=>?_)|(with_reducible refine Tot.on fun _ _=>?_)|split))
  ·rename_i h; rw [h]; exact hk x List.mem_cons_self
  ·exact ih fun y hy=>hk y (List.mem_cons_of_mem _ hy)
theorem Z54_tot (n:Nat):∀(v:Z9) (b:Bool),v.sz<n->Ok (Z54_qn n v b):=by
 induction n with
 | zero=>intro v b h; omega
 | succ n ih =>
  intro v b h;rw [Z54_qn]
  (repeat' (first|exact Tot.some _|assumption|(with_reducible refine Tot.bind ?_ fun _ _=>?_)|(with_reducible refine Tot.guard (fun _=>?_) fun _ _ _=>?_)|(with_reducible refine Tot.cond (fun _=>?_) fun _=>?_)|(with_reducible refine Tot.on fun _ _=>?_)|split))
  ·exact Z52_ok _ _
  ·exact Z54_loop b _ _ fun x hx=>ih x b (by have:=Z9.item_lt hx; omega)
theorem Z50_ok (v:Z9) (h:v.sz<=1048576):Ok (Z50_q v):=by
 unfold Z50_q;obtain⟨r,hr,_⟩:=Z51_ok v h
 (repeat' (first|exact Tot.some _|assumption|(with_reducible refine Tot.bind ?_ fun _ _=>?_)|(with_reducible refine Tot.guard (fun _=>?_) fun _ _ _=>?_)|(with_reducible refine Tot.cond (fun _=>?_) fun _=>?_)|(with_reducible refine Tot.on fun _ _=>?_)|split))
 ·exact⟨r,hr⟩
 ·exact Z49_ok v h
 ·exact Z54_tot F0 v true (by rw [F0_eq]; omega)
theorem Z57_loop (k:Z9->Option Bool) (l:List Z9) (hk:∀x∈l,Ok (k x)):Ok (Z57_q5 k l):=by
 induction l with
 | nil=>exact Tot.some _
 | cons x r ih =>
  rw [Z57_q5]
  (repeat' (first|exact Tot.some _|assumption|(with_reducible refine Tot.bind ?_ fun _ _=>?_)|(with_reducible refine Tot.guard (fun _=>?_) fun _ _ _=>?_)|(with_reducible refine Tot.cond (fun _=>?_) fun _=>?_)|(with_reducible refine Tot.on fun _ _=>?_)|split))
  ·rename_i h; rw [h]; exact hk x List.mem_cons_self
  ·exact ih fun y hy=>hk y (List.mem_cons_of_mem _ hy)
theorem Z57_tot (n:Nat):∀(v:Z9),v.sz<n->Ok (Z57_qn n v):=by
 induction n with
 | zero=>intro v h; omega
 | succ n ih =>
  intro v h;rw [Z57_qn]
  (repeat' (first|exact Tot.some _|assumption|(with_reducible refine Tot.bind ?_ fun _ _=>?_)|(with_reducible refine Tot.guard (fun _=>?_) fun _ _ _=>?_)|(with_reducible refine Tot.cond (fun _=>?_) fun _=>?_)|(with_reducible refine Tot.on fun _ _=>?_)|split))
  exact Z57_loop _ _ fun x hx=>ih x (by have:=Z9.item_lt hx; omega)
theorem Z57_ok (v:Z9) (h:v.sz<=1048576):Ok (Z57_q v):=Z57_tot F0 v (by rw [F0_eq]; omega)
theorem TArg.value_le (a:TArg):a.FValue.sz<=a.sz:=by have:=a.sz_def; omega
theorem TDir.arg_le {x:TDir}{a:TArg}(h:a∈x.FArgs.l):a.sz<=x.sz:=by have:=x.sz_def; have:=Sl.mem_le (f:=TArg.sz) h; omega
theorem Z59_in (h10:TDir) (l:List TArg) (h:∀a∈l,a.sz<=1048576):Ok (Z59_q25 h10 l):=by
 induction l with
 | nil=>exact Tot.some _
 | cons x r ih =>
  have h1:=h x List.mem_cons_self; have h2:=x.value_le;rw [Z59_q25]
  (repeat' (first|exact Tot.some _|assumption|(with_reducible refine Tot.bind ?_ fun _ _=>?_)|(with_reducible refine Tot.guard (fun _=>?_) fun _ _ _=>?_)|(with_reducible refine Tot.cond (fun _=>?_) fun _=>?_)|(with_reducible refine Tot.on fun _ _=>?_)|split))
  all_goals first|exact ih fun y hy=>h y (List.mem_cons_of_mem _ hy)|(subst_vars; first|exact Z50_ok _ (by omega)|exact Z57_ok _ (by omega))
theorem Z59_loop (l:List TDir) (h:∀a∈l,a.sz<=1048576):Ok (Z59_q10 l):=by
 induction l with
 | nil=>exact Tot.some _
 | cons x r ih =>
  have h1:=h x List.mem_cons_self;rw [Z59_q10]
  (repeat' (first|exact Tot.some _|assumption|(with_reducible refine Tot.bind ?_ fun _ _=>?_)|(with_reducible refine Tot.guard (fun _=>?_) fun _ _ _=>?_)|(with_reducible refine Tot.cond (fun _=>?_) fun _=>?_)|(with_reducible refine Tot.on fun _ _=>?_)|split))
  ·exact Z59_in x _ fun a ha=>by have:=TDir.arg_le ha; omega
  ·exact ih fun y hy=>h y (List.mem_cons_of_mem _ hy)
theorem Z59_ok (s:Sl TDir) (h:Sl.sz TDir.sz s<=1048576):Ok (Z59_q s):=by
 unfold Z59_q
 (repeat' (first|exact Tot.some _|assumption|(with_reducible refine Tot.bind ?_ fun _ _=>?_)|(with_reducible refine Tot.guard (fun _=>?_) fun _ _ _=>?_)|(with_reducible refine Tot.cond (fun _=>?_) fun _=>?_)|(with_reducible refine Tot.on fun _ _=>?_)|split))
 exact Z59_loop _ fun a ha=>by have:=Sl.mem_le (f:=TDir.sz) ha; omega
theorem TRef.wraps_le (r:TRef):r.FWraps.l.length<=r.sz:=by have:=r.sz_def; have:=Sl.len_le (f:=fun _:Int=>1) r.FWraps (fun _=>Nat.le_refl _); omega
theorem Z61_loop (l:List Z6) (h:∀a∈l,a.sz<=1048576):Ok (Z61_q10 l):=by
 induction l with
 | nil=>exact Tot.some _
 | cons x r ih =>
  have h1:=h x List.mem_cons_self; have h2:=x.sz_def; have h3:=x.FType.wraps_le;rw [Z61_q10]
  (repeat' (first|exact Tot.some _|assumption|(with_reducible refine Tot.bind ?_ fun _ _=>?_)|(with_reducible refine Tot.guard (fun _=>?_) fun _ _ _=>?_)|(with_reducible refine Tot.cond (fun _=>?_) fun _=>?_)|(with_reducible refine Tot.on fun _ _=>?_)|split))
  all_goals first|exact ih fun y hy=>h y (List.mem_cons_of_mem _ hy)|(subst_vars; first|exact Z55_ok _ (by omega)|exact Z59_ok _ (by omega)|exact Z50_ok _ (by omega)|exact Z57_ok _ (by omega))
theorem Z61_ok (s:Sl Z6) (h:Sl.sz Z6.sz s<=1048576):Ok (Z61_q s):=by
 unfold Z61_q
 (repeat' (first|exact Tot.some _|assumption|(with_reducible refine Tot.bind ?_ fun _ _=>?_)|(with_reducible refine Tot.guard (fun _=>?_) fun _ _ _=>?_)|(with_reducible refine Tot.cond (fun _=>?_) fun _=>?_)|(with_reducible refine Tot.on fun _ _=>?_)|split))
 exact Z61_loop _ fun a ha=>by have:=Sl.mem_le (f:=Z6.sz) ha; omega
theorem Z60_loop (l:List Z4) (h:∀a∈l,a.sz<=1048576):Ok (Z60_q10 l):=by
 induction l with
 | nil=>exact Tot.some _
 | cons x r ih =>
  have h1:=h x List.mem_cons_self; have h2:=x.sz_def; have h3:=x.FType.wraps_le;have hz:Z4.zero.FType.FWraps.l.length<=1048576:=by decide
  rw [Z60_q10];simp only [on];cases Z46_q x.FName<;>simp only [Bool.not_true,Bool.not_false,cond_true,cond_false,Bool.or_false,Bool.or_true,Bool.true_or,Bool.false_or]
  ·simp [guardO]; exact Tot.some _
  ·obtain⟨b1,e1⟩:=Z61_ok x.FArgs (by omega);obtain⟨b2,e2⟩:=Z55_ok x.FType (by omega);obtain⟨b3,e3⟩:=Z59_ok x.FDirs (by omega);have hr:=ih fun y hy=>h y (List.mem_cons_of_mem _ hy);cases b1<;>cases b2<;>cases b3<;>simp [guardO,e1,e2,e3]<;>first|exact Tot.some _|exact hr
theorem Z60_ok (s:Sl Z4) (h:Sl.sz Z4.sz s<=1048576):Ok (Z60_q s):=by
 unfold Z60_q
 (repeat' (first|exact Tot.some _|assumption|(with_reducible refine Tot.bind ?_ fun _ _=>?_)|(with_reducible refine Tot.guard (fun _=>?_) fun _ _ _=>?_)|(with_reducible refine Tot.cond (fun _=>?_) fun _=>?_)|(with_reducible refine Tot.on fun _ _=>?_)|split))
 exact Z60_loop _ fun a ha=>by have:=Sl.mem_le (f:=Z4.sz) ha; omega
theorem Z62_loop (b:Bool) (l:List Z7) (h:∀a∈l,a.sz<=1048576):Ok (Z62_q10 b l):=by
 induction l with
 | nil=>exact Tot.some _
 | cons x r ih =>
  have h1:=h x List.mem_cons_self; have h2:=x.sz_def;rw [Z62_q10];simp only [on];cases Z46_q x.FName<;>simp only [Bool.not_true,Bool.not_false,cond_true,cond_false,Bool.or_false,Bool.or_true,Bool.true_or,Bool.false_or]
  ·simp [guardO]; exact Tot.some _
  ·obtain⟨b3,e3⟩:=Z59_ok x.FDirs (by omega);have hr:=ih fun y hy=>h y (List.mem_cons_of_mem _ hy);simp only [guardO,e3,if_true,Option.bind_some]
   (repeat' (first|exact Tot.some _|assumption|(with_reducible refine Tot.bind ?_ fun _ _=>?_)|(with_reducible refine Tot.guard (fun _=>?_) fun _ _ _=>?_)|(with_reducible refine Tot.cond (fun _=>?_) fun _=>?_)|(with_reducible refine Tot.on fun _ _=>?_)|split))
theorem Z62_ok (s:Sl Z7) (b:Bool) (h:Sl.sz Z7.sz s<=1048576):Ok (Z62_q s b):=by
 unfold Z62_q
 (repeat' (first|exact Tot.some _|assumption|(with_reducible refine Tot.bind ?_ fun _ _=>?_)|(with_reducible refine Tot.guard (fun _=>?_) fun _ _ _=>?_)|(with_reducible refine Tot.cond (fun _=>?_) fun _=>?_)|(with_reducible refine Tot.on fun _ _=>?_)|split))
 exact Z62_loop _ _ fun a ha=>by have:=Sl.mem_le (f:=Z7.sz) ha; omega
theorem Z58_ok (x:TDef) (h:x.sz<=1048576):Ok (Z58_q x):=by
 have h2:=x.sz_def;unfold Z58_q
 (repeat' (first|exact Tot.some _|assumption|(with_reducible refine Tot.bind ?_ fun _ _=>?_)|(with_reducible refine Tot.guard (fun _=>?_) fun _ _ _=>?_)|(with_reducible refine Tot.cond (fun _=>?_) fun _=>?_)|(with_reducible refine Tot.on fun _ _=>?_)|split))
 all_goals first|exact Z59_ok _ (by omega)|exact Z60_ok _ (by omega)|exact Z62_ok _ _ (by omega)|exact Z61_ok _ (by omega)
theorem Z56_loop (l:List TDef) (h:∀a∈l,a.sz<=1048576):Ok (Z56_q10 l):=by
 induction l with
 | nil=>exact Tot.some _
 | cons x r ih =>
  rw [Z56_q10]
  (repeat' (first|exact Tot.some _|assumption|(with_reducible refine Tot.bind ?_ fun _ _=>?_)|(with_reducible refine Tot.guard (fun _=>?_) fun _ _ _=>?_)|(with_reducible refine Tot.cond (fun _=>?_) fun _=>?_)|(with_reducible refine Tot.on fun _ _=>?_)|split))
  ·subst_vars; exact Z58_ok _ (h _ List.mem_cons_self)
  ·exact ih fun y hy=>h y (List.mem_cons_of_mem _ hy)
theorem TDoc.def_le {d:TDoc}{x:TDef}(h:x∈d.FDefs.l):x.sz<=d.sz:=by have:=d.sz_def; have:=Sl.mem_le (f:=TDef.sz) h; omega
theorem Z56_ok (d:TDoc) (h:d.sz<=1048576):Ok (Z56_q d):=by
 unfold Z56_q
 (repeat' (first|exact Tot.some _|assumption|(with_reducible refine Tot.bind ?_ fun _ _=>?_)|(with_reducible refine Tot.guard (fun _=>?_) fun _ _ _=>?_)|(with_reducible refine Tot.cond (fun _=>?_) fun _=>?_)|(with_reducible refine Tot.on fun _ _=>?_)|split))
 exact Z56_loop _ fun a ha=>by have:=TDoc.def_le ha; omega
end Go.Proofs

namespace Go.Proofs
open Go Go.Ab
theorem Z67_loop (k:Z9->Option Bool) (l:List Z9) (hk:∀x∈l,Ok (k x)):Ok (Z67_q5 k l):=by
 induction l with
 | nil=>exact Tot.some _
 | cons x r ih =>
  rw [Z67_q5]
  (repeat' (first|exact Tot.some _|assumption|(with_reducible refine Tot.bind ?_ fun _ _=>?_)|(with_reducible refine Tot.guard (fun _=>?_) fun _ _ _=>?_)|(with_reducible refine Tot.cond (fun _=>?_) fun _=>?_)|(with_reducible refine Tot.on fun _ _=>?_)|split))
  ·rename_i h; rw [h]; exact hk x List.mem_cons_self
  ·exact ih fun y hy=>hk y (List.mem_cons_of_mem _ hy)
theorem Z67_tot (n:Nat):∀(v:Z9),v.sz<n->Ok (Z67_qn n v):=by
 induction n with
 | zero=>intro v h; omega
 | succ n ih =>
  intro v h;rw [Z67_qn]
  (repeat' (first|exact Tot.some _|assumption|(with_reducible refine Tot.bind ?_ fun _ _=>?_)|(with_reducible refine Tot.guard (fun _=>?_) fun _ _ _=>?_)|(with_reducible refine Tot.cond (fun _=>?_) fun _=>?_)|(with_reducible refine Tot.on fun _ _=>?_)|split))
  exact Z67_loop _ _ fun x hx=>ih x (by have:=Z9.item_lt hx; omega)
theorem Z67_ok (v:Z9) (h:v.sz<=1048576):Ok (Z67_q v):=Z67_tot F0 v (by rw [F0_eq]; omega)
theorem Z71_loop (l:List TVar) (h:∀a∈l,a.sz<=1048576):Ok (Z71_q6 l):=by
 induction l with
 | nil=>exact Tot.some _
 | cons x r ih =>
  have h1:=h x List.mem_cons_self; have h2:=x.sz_def; have h3:=x.FType.wraps_le;have hr:=ih fun y hy=>h y (List.mem_cons_of_mem _ hy);rw [Z71_q6]
  (repeat' (first|exact Tot.some _|assumption|(with_reducible refine Tot.bind ?_ fun _ _=>?_)|(with_reducible refine Tot.guard (fun _=>?_) fun _ _ _=>?_)|(with_reducible refine Tot.cond (fun _=>?_) fun _=>?_)|(with_reducible refine Tot.on fun _ _=>?_)|split))
  all_goals (subst_vars; first|exact Z55_ok _ (by omega)|exact Z50_ok _ (by omega)|exact Z67_ok _ (by omega))
theorem Z71_ok (s:Sl TVar) (h:Sl.sz TVar.sz s<=1048576):Ok (Z71_q s):=by
 unfold Z71_q
 (repeat' (first|exact Tot.some _|assumption|(with_reducible refine Tot.bind ?_ fun _ _=>?_)|(with_reducible refine Tot.guard (fun _=>?_) fun _ _ _=>?_)|(with_reducible refine Tot.cond (fun _=>?_) fun _=>?_)|(with_reducible refine Tot.on fun _ _=>?_)|split))
 exact Z71_loop _ fun a ha=>by have:=Sl.mem_le (f:=TVar.sz) ha; omega
theorem Z66_loop (l:List TArg) (h:∀a∈l,a.sz<=1048576):Ok (Z66_q6 l):=by
 induction l with
 | nil=>exact Tot.some _
 | cons x r ih =>
  have h1:=h x List.mem_cons_self; have h2:=x.value_le;have hr:=ih fun y hy=>h y (List.mem_cons_of_mem _ hy);obtain⟨b,e⟩:=Z50_ok x.FValue (by omega);rw [Z66_q6];simp only [on];cases Z46_q x.FName<;>simp only [guardO,e,Bool.not_true,Bool.not_false,cond_true,cond_false,Bool.or_false,Bool.or_true,Bool.true_or,Bool.false_or,if_true,Bool.false_eq_true,if_false,Option.bind_some]
  ·exact Tot.some _
  ·(repeat' (first|exact Tot.some _|assumption|(with_reducible refine Tot.bind ?_ fun _ _=>?_)|(with_reducible refine Tot.guard (fun _=>?_) fun _ _ _=>?_)|(with_reducible refine Tot.cond (fun _=>?_) fun _=>?_)|(with_reducible refine Tot.on fun _ _=>?_)|split))
theorem Z66_ok (s:Sl TArg) (h:Sl.sz TArg.sz s<=1048576):Ok (Z66_q s):=by
 unfold Z66_q
 (repeat' (first|exact Tot.some _|assumption|(with_reducible refine Tot.bind ?_ fun _ _=>?_)|(with_reducible refine Tot.guard (fun _=>?_) fun _ _ _=>?_)|(with_reducible refine Tot.cond (fun _=>?_) fun _=>?_)|(with_reducible refine Tot.on fun _ _=>?_)|split))
 exact Z66_loop _ fun a ha=>by have:=Sl.mem_le (f:=TArg.sz) ha; omega
theorem Z68_loop (l:List TDir) (h:∀a∈l,a.sz<=1048576):Ok (Z68_q6 l):=by
 induction l with
 | nil=>exact Tot.some _
 | cons x r ih =>
  have h1:=h x List.mem_cons_self; have h2:=x.sz_def;have hr:=ih fun y hy=>h y (List.mem_cons_of_mem _ hy);obtain⟨b,e⟩:=Z66_ok x.FArgs (by omega);rw [Z68_q6];simp only [on];cases Z46_q x.FName<;>simp only [guardO,e,Bool.not_true,Bool.not_false,cond_true,cond_false,Bool.or_false,Bool.or_true,Bool.true_or,Bool.false_or,if_true,Bool.false_eq_true,if_false,Option.bind_some]
  ·exact Tot.some _
  ·(repeat' (first|exact Tot.some _|assumption|(with_reducible refine Tot.bind ?_ fun _ _=>?_)|(with_reducible refine Tot.guard (fun _=>?_) fun _ _ _=>?_)|(with_reducible refine Tot.cond (fun _=>?_) fun _=>?_)|(with_reducible refine Tot.on fun _ _=>?_)|split))
theorem Z68_ok (s:Sl TDir) (h:Sl.sz TDir.sz s<=1048576):Ok (Z68_q s):=by
 unfold Z68_q
 (repeat' (first|exact Tot.some _|assumption|(with_reducible refine Tot.bind ?_ fun _ _=>?_)|(with_reducible refine Tot.guard (fun _=>?_) fun _ _ _=>?_)|(with_reducible refine Tot.cond (fun _=>?_) fun _=>?_)|(with_reducible refine Tot.on fun _ _=>?_)|split))
 exact Z68_loop _ fun a ha=>by have:=Sl.mem_le (f:=TDir.sz) ha; omega
theorem r08_sels_loop (i:Int) (k:TSel->Int->Option Bool) (l:List TSel) (hk:∀x∈l,Ok (k x i)):Ok (r08_selsRight_q10 i k l):=by
 induction l with
 | nil=>exact Tot.some _
 | cons x r ih =>
  have hr:=ih fun y hy=>hk y (List.mem_cons_of_mem _ hy);rw [r08_selsRight_q10]
  (repeat' (first|exact Tot.some _|assumption|(with_reducible refine Tot.bind ?_ fun _ _=>?_)|(with_reducible refine Tot.guard (fun _=>?_) fun _ _ _=>?_)|(with_reducible refine Tot.cond (fun _=>?_) fun _=>?_)|(with_reducible refine Tot.on fun _ _=>?_)|split))
  rename_i h; rw [h]; exact hk x List.mem_cons_self
theorem TSel.sub_lt (s:TSel):Sl.sz TSel.sz s.FSels<s.sz:=by
 have h1:=s.sz_def; have:=Bs.sz_pos s.FAlias; omega
theorem r08_sels_tot (n:Nat):(∀(s:Sl TSel) (i:Int),Sl.sz TSel.sz s<=1048576->2*Sl.sz TSel.sz s<n->0<=i->i<=25->Ok (r08_selsRight_qn n s i))/\(∀(s:TSel) (i:Int),s.sz<=1048576->2*s.sz<n->0<=i->i<=24->Ok (Z69_qn n s i)):=by
 induction n with
 | zero=>exact⟨fun s i _ h=>by omega,fun s i _ h=>by omega⟩
 | succ n ih =>
  refine⟨fun s i hs h h0 h1=>?_,fun s i hs h h0 h1=>?_⟩
  ·rw [r08_selsRight_qn];refine Tot.cond (fun _=>Tot.some _) fun hc=>?_;simp only [Bool.or_eq_false_iff,decide_eq_false_iff_not] at hc
   (repeat' (first|exact Tot.some _|assumption|(with_reducible refine Tot.bind ?_ fun _ _=>?_)|(with_reducible refine Tot.guard (fun _=>?_) fun _ _ _=>?_)|(with_reducible refine Tot.cond (fun _=>?_) fun _=>?_)|(with_reducible refine Tot.on fun _ _=>?_)|split))
   exact r08_sels_loop _ _ _ fun x hx=>ih.2 x i (by have:=Sl.mem_le (f:=TSel.sz) hx; omega) (by have:=Sl.mem_le (f:=TSel.sz) hx; omega) h0 (by omega)
  ·have h2:=s.sz_def;have h3:=s.sub_lt;obtain⟨b1,e1⟩:=Z68_ok s.FDirs (by omega);obtain⟨b2,e2⟩:=Z66_ok s.FArgs (by omega);obtain⟨b3,e3⟩:=ih.1 s.FSels (i+1) (by omega) (by omega) (by omega) (by omega);rw [Z69_qn]
   (repeat' (first|exact Tot.some _|assumption|(with_reducible refine Tot.bind ?_ fun _ _=>?_)|(with_reducible refine Tot.guard (fun _=>?_) fun _ _ _=>?_)|(with_reducible refine Tot.cond (fun _=>?_) fun _=>?_)|(with_reducible refine Tot.on fun _ _=>?_)|split))
   all_goals first
    | exact⟨_,e1⟩|exact⟨_,e2⟩|exact⟨_,e3⟩
    | (rw [addC_ok (by omega)]; exact Tot.some _)
    | (rename_i hg _ hv _; have h9:=hv hg; rw [addC_ok (by omega)] at h9; obtain rfl:=Option.some.inj h9; exact⟨_,e3⟩)
    | (rename_i hv; rw [addC_ok (by omega)] at hv; obtain rfl:=Option.some.inj hv; exact⟨_,e3⟩)
    | (rename_i hv _ hg; have h9:=hv hg; rw [addC_ok (by omega)] at h9; obtain rfl:=Option.some.inj h9; exact⟨_,e3⟩)
    | (rename_i hv _ _ hg; have h9:=hv hg; rw [addC_ok (by omega)] at h9; obtain rfl:=Option.some.inj h9; exact⟨_,e3⟩)
theorem r08_selsRight_ok (s:Sl TSel) (h:Sl.sz TSel.sz s<=1048576):Ok (r08_selsRight_q s 1):=(r08_sels_tot F0).1 s 1 h (by rw [F0_eq]; omega) (by omega) (by omega)
theorem Z65_ops (l:List TOp) (h:∀a∈l,a.sz<=1048576):Ok (Z65_q30 l):=by
 induction l with
 | nil=>exact Tot.some _
 | cons x r ih =>
  have h1:=h x List.mem_cons_self; have h2:=x.sz_def;have hr:=ih fun y hy=>h y (List.mem_cons_of_mem _ hy);rw [Z65_q30]
  (repeat' (first|exact Tot.some _|assumption|(with_reducible refine Tot.bind ?_ fun _ _=>?_)|(with_reducible refine Tot.guard (fun _=>?_) fun _ _ _=>?_)|(with_reducible refine Tot.cond (fun _=>?_) fun _=>?_)|(with_reducible refine Tot.on fun _ _=>?_)|split))
  all_goals (subst_vars; first|exact Z71_ok _ (by omega)|exact r08_selsRight_ok _ (by omega))
theorem Z65_frags (l:List Z5) (h:∀a∈l,a.sz<=1048576):Ok (Z65_q14 l):=by
 induction l with
 | nil=>exact Tot.some _
 | cons x r ih =>
  have h1:=h x List.mem_cons_self; have h2:=x.sz_def;have hr:=ih fun y hy=>h y (List.mem_cons_of_mem _ hy);rw [Z65_q14]
  (repeat' (first|exact Tot.some _|assumption|(with_reducible refine Tot.bind ?_ fun _ _=>?_)|(with_reducible refine Tot.guard (fun _=>?_) fun _ _ _=>?_)|(with_reducible refine Tot.cond (fun _=>?_) fun _=>?_)|(with_reducible refine Tot.on fun _ _=>?_)|split))
  all_goals (subst_vars; first|exact r08_selsRight_ok _ (by omega))
theorem Z8.op_le {d:Z8}{x:TOp}(h:x∈d.FOps.l):x.sz<=d.sz:=by have:=d.sz_def; have:=Sl.mem_le (f:=TOp.sz) h; omega
theorem Z8.frag_le {d:Z8}{x:Z5}(h:x∈d.FFrags.l):x.sz<=d.sz:=by have:=d.sz_def; have:=Sl.mem_le (f:=Z5.sz) h; omega
theorem Z8.lens (d:Z8):d.FOps.l.length<=d.sz/\d.FFrags.l.length<=d.sz:=by
 have h1:=d.sz_def; have h2:=Sl.len_lt (f:=TOp.sz) d.FOps TOp.pos; have h3:=Sl.len_lt (f:=Z5.sz) d.FFrags Z5.pos; omega
theorem Z65_ok (q:Z8) (h:q.sz<=1048576):Ok (Z65_q q):=by
 have hl:=q.lens;unfold Z65_q;rw [addC_ok (by omega)]
 (repeat' (first|exact Tot.some _|assumption|(with_reducible refine Tot.bind ?_ fun _ _=>?_)|(with_reducible refine Tot.guard (fun _=>?_) fun _ _ _=>?_)|(with_reducible refine Tot.cond (fun _=>?_) fun _=>?_)|(with_reducible refine Tot.on fun _ _=>?_)|split))
 ·exact Z65_ops _ fun a ha=>by have:=Z8.op_le ha; omega
 ·exact Z65_frags _ fun a ha=>by have:=Z8.frag_le ha; omega
theorem Z72_args (m:Int) (h7:TSel) (l:List TArg) (s:Int) (hs:0<=s) (hb:s+((l.map TArg.sz).sum:Nat)<=1152921504606846976) (ha:∀a∈l,a.sz<=1048576):∃r,Z72_q29 m h7 l s=some r/\s<=r/\r+(l.length:Nat)<=s+((l.map TArg.sz).sum:Nat):=by
 induction l generalizing s with
 | nil=>exact⟨s,rfl,by simp,by simp⟩
 | cons x r ih =>
  have h1:=ha x List.mem_cons_self; have h2:=x.sz_def; have hp:=Bs.sz_pos x.FName;obtain⟨v,h3,h4,h5⟩:=Z51_ok x.FValue (by omega);have hr:r.length<=(r.map TArg.sz).sum:=by
   have:=Sl.len_le (f:=TArg.sz) ⟨false,r⟩ TArg.pos;have h9:=Sl.len_lt (f:=TArg.sz) ⟨false,r⟩ TArg.pos;have h8:Sl.sz TArg.sz ⟨false,r⟩=1+(r.map TArg.sz).sum:=rfl;simp only at h9; omega
  simp only [List.map_cons,List.sum_cons,List.length_cons] at hb ⊢;rw [Z72_q29];cases decide (s<=m) with
  | false=>exact⟨s,rfl,by omega,by omega⟩
  | true =>
   simp only [on,cond_true,h3,Option.bind_some];rw [addC_ok (by omega)];simp only [Option.bind_some];obtain⟨w,h6,h7,h8⟩:=ih (s+v) (by omega) (by omega) (fun y hy=>ha y (List.mem_cons_of_mem _ hy));exact⟨w,h6,by omega,by omega⟩
theorem Z72_loop (m:Int) (k:Sl TSel->Int->Option Int) (l:List TSel) (s:Int) (hm : -2305843009213693952<=m/\m<=1152921504606846976) (hs:0<=s) (hb:s+((l.map TSel.sz).sum:Nat)<=1048576) (hk:∀x∈l,∀m',m-1048576<=m'->m'<=m->∃r,k x.FSels m'=some r/\0<=r/\r<=(Sl.sz TSel.sz x.FSels:Nat)):∃r,Z72_q7 m k l s=some r/\s<=r/\r<=s+((l.map TSel.sz).sum:Nat):=by
 induction l generalizing s with
 | nil=>exact⟨s,rfl,by simp,by simp⟩
 | cons x r ih =>
  have h2:=x.sz_def;have h3:=Sl.len_lt (f:=TArg.sz) x.FArgs TArg.pos; have h4:=Sl.len_lt (f:=TDir.sz) x.FDirs TDir.pos;have h5:Sl.sz TArg.sz x.FArgs=1+(x.FArgs.l.map TArg.sz).sum:=rfl;have h0:=Bs.sz_pos x.FName; have h01:=Bs.sz_pos x.FAlias; have h02:=Bs.sz_pos x.FOn;have h6:x.FArgs.l.length<=2*(x.FArgs.l.map TArg.sz).sum:=by omega
  simp only [List.map_cons,List.sum_cons] at hb ⊢;rw [Z72_q7];cases decide (s<=m) with
  | false=>exact⟨s,rfl,by omega,by omega⟩
  | true =>
   simp only [on,cond_true];iterate 3 (rw [addC_ok (by omega)]; simp only [Option.bind_some])
   obtain⟨w,e1,e2,e3⟩:=Z72_args m x x.FArgs.l (s+1+(x.FArgs.l.length:Nat)+(x.FDirs.l.length:Nat)) (by omega) (by omega) (fun a haa=>by have:=Sl.mem_le (f:=TArg.sz) haa; omega);simp only [e1,Option.bind_some];rw [subC_ok (by omega)];simp only [Option.bind_some];obtain⟨y,e4,e5,e6⟩:=hk x List.mem_cons_self (m-w) (by omega) (by omega);simp only [e4,Option.bind_some];rw [addC_ok (by omega)];simp only [Option.bind_some]
   obtain⟨z,e7,e8,e9⟩:=ih (w+y) (by omega) (by omega) (fun y hy=>hk y (List.mem_cons_of_mem _ hy));exact⟨z,e7,by omega,by omega⟩
theorem Z72_tot (n:Nat):∀(l:Sl TSel) (m:Int),Sl.sz TSel.sz l<n->Sl.sz TSel.sz l<=1048576 -> -2199023255552+(Sl.sz TSel.sz l:Nat)*1048576<=m->m<=1152921504606846976->∃r,Z72_qn n l m=some r/\0<=r/\r<=(Sl.sz TSel.sz l:Nat):=by
 induction n with
 | zero=>intro l m h; omega
 | succ n ih =>
  intro l m h1 h2 h3 h4;have h5:Sl.sz TSel.sz l=1+(l.l.map TSel.sz).sum:=rfl;obtain⟨r,e1,e2,e3⟩:=Z72_loop m (Z72_qn n) l.l 0 ⟨by omega,h4⟩ (by omega) (by omega) (fun x hx m' h6 h7=>by
   have h8:=Sl.mem_le (f:=TSel.sz) hx; have h9:=x.sub_lt;exact ih _ _ (by omega) (by omega) (by omega) (by omega))
  rw [Z72_qn,e1];exact⟨r,rfl,by omega,by omega⟩
theorem Z72_ok (l:Sl TSel) (h:Sl.sz TSel.sz l<=1048576):∃r,Z72_q l 600=some r/\0<=r/\r<=(Sl.sz TSel.sz l:Nat):=Z72_tot F0 l 600 (by rw [F0_eq]; omega) h (by omega) (by omega)
theorem Z64_ops (l:List TOp) (s:Int) (hs:0<=s) (hb:s+((l.map TOp.sz).sum:Nat)<=1073741824) (ha:∀a∈l,a.sz<=1048576):∃r,Z64_q24 l s=some r/\0<=r/\r<=s+((l.map TOp.sz).sum:Nat):=by
 induction l generalizing s with
 | nil=>exact⟨s,rfl,by omega,by simp⟩
 | cons x r ih =>
  have h1:=ha x List.mem_cons_self; have h2:=x.sz_def;have h3:=Sl.len_lt (f:=TVar.sz) x.FVars TVar.pos;simp only [List.map_cons,List.sum_cons] at hb ⊢;rw [Z64_q24];cases decide (s<=600) with
  | false=>exact⟨s,rfl,by omega,by omega⟩
  | true =>
   simp only [on,cond_true];rw [addC_ok (by omega)];obtain⟨w,e1,e2,e3⟩:=Z72_ok x.FSels (by omega);simp only [Option.bind_some,e1];rw [addC_ok (by omega)];simp only [Option.bind_some];obtain⟨z,e7,e8,e9⟩:=ih (s+(x.FVars.l.length:Nat)+w) (by omega) (by omega) (fun y hy=>ha y (List.mem_cons_of_mem _ hy));exact⟨z,e7,by omega,by omega⟩
theorem Z64_frags (l:List Z5) (s:Int) (hs:0<=s) (hb:s+((l.map Z5.sz).sum:Nat)<=2147483648) (ha:∀a∈l,a.sz<=1048576):∃r,Z64_q12 l s=some r/\0<=r/\r<=s+((l.map Z5.sz).sum:Nat):=by
 induction l generalizing s with
 | nil=>exact⟨s,rfl,by omega,by simp⟩
 | cons x r ih =>
  have h1:=ha x List.mem_cons_self; have h2:=x.sz_def;simp only [List.map_cons,List.sum_cons] at hb ⊢;rw [Z64_q12];cases decide (s<=600) with
  | false=>exact⟨s,rfl,by omega,by omega⟩
  | true =>
   simp only [on,cond_true];obtain⟨w,e1,e2,e3⟩:=Z72_ok x.FSels (by omega);simp only [Option.bind_some,e1];rw [addC_ok (by omega)];simp only [Option.bind_some];obtain⟨z,e7,e8,e9⟩:=ih (s+w) (by omega) (by omega) (fun y hy=>ha y (List.mem_cons_of_mem _ hy));exact⟨z,e7,by omega,by omega⟩
theorem Z64_ok (q:Z8) (h:q.sz<=1048576):Ok (Z64_q q):=by
 have hl:=q.lens; have hd:=q.sz_def;have h1:Sl.sz TOp.sz q.FOps=1+(q.FOps.l.map TOp.sz).sum:=rfl;have h2:Sl.sz Z5.sz q.FFrags=1+(q.FFrags.l.map Z5.sz).sum:=rfl;unfold Z64_q;rw [addC_ok (by omega)];obtain⟨r,e1,e2,e3⟩:=Z64_ops q.FOps.l ((q.FOps.l.length:Nat)+(q.FFrags.l.length:Nat)) (by omega) (by omega) fun a ha=>by have:=Z8.op_le ha; omega
 simp only [Option.bind_some,e1,on];obtain⟨w,e4,e5,e6⟩:=Z64_frags q.FFrags.l r (by omega) (by omega) fun a ha=>by have:=Z8.frag_le ha; omega
 simp only [Option.bind_some,e4];exact Tot.some _
theorem Z73_in (l:List Z4) (s:Int) (hs:0<=s) (hb:s+((l.map Z4.sz).sum:Nat)<=1152921504606846976) (ha:∀a∈l,a.sz<=1048576):∃r,Z73_q36 l s=some r/\0<=r/\r<=s+((l.map Z4.sz).sum:Nat):=by
 induction l generalizing s with
 | nil=>exact⟨s,rfl,by omega,by simp⟩
 | cons x r ih =>
  have h1:=ha x List.mem_cons_self; have h2:=x.sz_def;have h3:=Sl.len_lt (f:=Z6.sz) x.FArgs Z6.pos; have h4:=Sl.len_lt (f:=TDir.sz) x.FDirs TDir.pos;simp only [List.map_cons,List.sum_cons] at hb ⊢;rw [Z73_q36];simp only [on];rw [addC_ok (by omega)]; simp only [Option.bind_some];rw [addC_ok (by omega)]; simp only [Option.bind_some];obtain⟨z,e7,e8,e9⟩:=ih (s+((x.FArgs.l.length:Nat)+(x.FDirs.l.length:Nat))) (by omega) (by omega) (fun y hy=>ha y (List.mem_cons_of_mem _ hy))
  exact⟨z,e7,by omega,by omega⟩
theorem Z73_out (l:List TDef) (s:Int) (hs:0<=s) (hb:s+2*((l.map TDef.sz).sum:Nat)<=1152921504606846976) (ha:∀a∈l,a.sz<=1048576):∃r,Z73_q12 l s=some r:=by
 induction l generalizing s with
 | nil=>exact⟨s,rfl⟩
 | cons x r ih =>
  have h1:=ha x List.mem_cons_self; have h2:=x.sz_def;have h3:=Sl.len_lt (f:=Z4.sz) x.FFields Z4.pos; have h4:=Sl.len_lt (f:=TDir.sz) x.FDirs TDir.pos; have h5:=Sl.len_lt (f:=Z7.sz) x.FMembers Z7.pos;have h6:=Sl.len_lt (f:=Z6.sz) x.FInputs Z6.pos; have h7:=Sl.len_lt (f:=Bs.sz) x.FImplements Bs.sz_pos;have h8:Sl.sz Z4.sz x.FFields=1+(x.FFields.l.map Z4.sz).sum:=rfl;simp only [List.map_cons,List.sum_cons] at hb
  rw [Z73_q12];simp only [on];iterate 6 (rw [addC_ok (by omega)]; simp only [Option.bind_some])
  obtain⟨z,e1,e2,e3⟩:=Z73_in x.FFields.l (s+(1+(x.FFields.l.length:Nat)+(x.FMembers.l.length:Nat)+(x.FInputs.l.length:Nat)+(x.FDirs.l.length:Nat)+(x.FImplements.l.length:Nat))) (by omega) (by omega) (fun a haa=>by have:=Sl.mem_le (f:=Z4.sz) haa; omega);simp only [e1,Option.bind_some];exact ih z e2 (by omega) (fun y hy=>ha y (List.mem_cons_of_mem _ hy))
theorem Z73_ok (d:TDoc) (h:d.sz<=1048576):Ok (Z73_q d):=by
 have hd:=d.sz_def;have h1:Sl.sz TDef.sz d.FDefs=1+(d.FDefs.l.map TDef.sz).sum:=rfl;unfold Z73_q
 (repeat' (first|exact Tot.some _|assumption|(with_reducible refine Tot.bind ?_ fun _ _=>?_)|(with_reducible refine Tot.guard (fun _=>?_) fun _ _ _=>?_)|(with_reducible refine Tot.cond (fun _=>?_) fun _=>?_)|(with_reducible refine Tot.on fun _ _=>?_)|split))
 exact Z73_out _ _ (by omega) (by omega) fun a ha=>by have:=TDoc.def_le ha; omega
end Go.Proofs

namespace Go.Proofs
open Go Go.Ab
def nnW (w:List Int):Bool:=w.head?==some 1
def liW (w:List Int):Bool:=w.head?==some 2
def barS (s:Sl Int):Sl Int:=bif nnW s.l then⟨s.nl,s.l.drop 1⟩ else s
def bar (t:TRef):TRef:=⟨t.FName,barS t.FWraps⟩
def innerT (t:TRef):TRef:=⟨t.FName,⟨(barS t.FWraps).nl,(barS t.FWraps).l.drop 1⟩⟩
theorem clone_eq {s:Sl Int}(h:SOk s):Z95_q s=some s:=by
 unfold Z95_q;obtain⟨nl,l⟩:=s;cases nl with
 | true=>have:=h.1 rfl; simp only at this; subst this; rfl
 | false =>
  simp only [cond_false];rw [appC_ok (by omega) (by have:=h.2; simp at this ⊢; omega)];simp
theorem isNonNull_eq (t:TRef):Z116_q t=nnW t.FWraps.l:=by
 unfold Z116_q nnW on;cases t.FWraps.l with
 | nil=>rfl
 | cons a r=>simp; by_cases h:a=1<;>simp [h]
theorem head_one {w:List Int}(h:nnW w=true):1<=w.length:=by cases w<;>simp [nnW] at h ⊢
theorem sok_drop {α:Type}{s:Sl α}(n:Nat) (h:SOk s):SOk ⟨s.nl,s.l.drop n⟩:=⟨fun e=>by simp [h.1 e],by have:=h.2; simp; omega⟩
theorem barS_ok {s:Sl Int}(h:SOk s):SOk (barS s):=by
 unfold barS;cases nnW s.l with
 | true=>exact sok_drop 1 h
 | false=>exact h
theorem innerT_ok {t:TRef}(h:SOk t.FWraps):SOk (innerT t).FWraps:=sok_drop 1 (barS_ok h)
theorem nullable_eq {t:TRef}(h:SOk t.FWraps):Z119_q t=some (bar t):=by
 unfold Z119_q bar barS on;simp only [isNonNull_eq];cases hn:nnW t.FWraps.l with
 | true =>
  simp only [cond_true];rw [partC_tail (head_one hn)];simp only [Option.bind_some];rw [clone_eq (sok_drop 1 h)]; rfl
 | false =>
  simp only [cond_false,Option.bind_some];rw [clone_eq h]; rfl
theorem isList_eq {t:TRef}(h:SOk t.FWraps):Z115_q t=some (liW (barS t.FWraps).l):=by
 unfold Z115_q;rw [nullable_eq h];simp only [Option.bind_some,on,bar,liW];cases (barS t.FWraps).l with
 | nil=>rfl
 | cons a r=>simp; by_cases h:a=2<;>simp [h]
theorem list_one {w:List Int}(h:liW w=true):1<=w.length:=by cases w<;>simp [liW] at h ⊢
theorem inner_eq {t:TRef}(h:SOk t.FWraps):Z114_q t=some (bif liW (barS t.FWraps).l then(innerT t,true) else(⟨[],Sl.nil⟩,false)):=by
 unfold Z114_q;rw [isList_eq h];simp only [Option.bind_some];cases hl:liW (barS t.FWraps).l with
 | false=>rfl
 | true =>
  simp only [Bool.not_true,cond_false,cond_true];rw [nullable_eq h];simp only [Option.bind_some,bar];rw [partC_tail (list_one hl)];rfl
theorem inner_lt {t:TRef}(h:liW (barS t.FWraps).l=true):(innerT t).FWraps.l.length<t.FWraps.l.length:=by
 have h1:=list_one h;have h2:(barS t.FWraps).l.length<=t.FWraps.l.length:=by
  unfold barS; cases nnW t.FWraps.l<;>simp
 simp [innerT]; omega
theorem findAux (l:List TDef) (s:Bs):Z78_q7 s l=(match l.find? (fun t=>t.FName==s) with|some t=>Sum.inr (t,true)|none=>Sum.inl ()):=by
 induction l with
 | nil=>rfl
 | cons a r ih =>
  rw [Z78_q7,List.find?_cons];simp only [on,ih];cases a.FName==s<;>rfl
def fnd (l:List TDef) (s:Bs):TDef×Bool:=match l.find? (fun t=>t.FName==s) with|some t=>(t,true)|none=>(TDef.zero,false)
theorem find_eq (d:TDoc) (s:Bs):Z78_q d s=fnd d.FDefs.l s:=by
 unfold Z78_q fnd on;rw [findAux];cases d.FDefs.l.find? (fun t=>t.FName==s)<;>rfl
theorem fnd_mem (l:List TDef) (s:Bs):(fnd l s).1=TDef.zero\/(fnd l s).1∈l:=by
 unfold fnd;cases h:l.find? (fun t=>t.FName==s) with
 | none=>exact .inl rfl
 | some t=>exact .inr (List.mem_of_find?_eq_some h)
theorem fieldAux (l:List Z4) (s:Bs):Z77_q7 s l=(match l.find? (fun t=>t.FName==s) with|some t=>Sum.inr (t,true)|none=>Sum.inl ()):=by
 induction l with
 | nil=>rfl
 | cons a r ih =>
  rw [Z77_q7,List.find?_cons];simp only [on,ih];cases a.FName==s<;>rfl
def fndF (l:List Z4) (s:Bs):Z4×Bool:=match l.find? (fun t=>t.FName==s) with|some t=>(t,true)|none=>(Z4.zero,false)
theorem fieldOf_eq (t:TDef) (s:Bs):Z77_q t s=fndF t.FFields.l s:=by
 unfold Z77_q fndF on;rw [fieldAux];cases t.FFields.l.find? (fun t=>t.FName==s)<;>rfl
theorem inputAux (l:List Z6) (s:Bs):Z79_q7 s l=(match l.find? (fun t=>t.FName==s) with|some t=>Sum.inr (t,true)|none=>Sum.inl ()):=by
 induction l with
 | nil=>rfl
 | cons a r ih =>
  rw [Z79_q7,List.find?_cons];simp only [on,ih];cases a.FName==s<;>rfl
def fndI (l:List Z6) (s:Bs):Z6×Bool:=match l.find? (fun t=>t.FName==s) with|some t=>(t,true)|none=>(Z6.zero,false)
theorem inputOf_eq (t:Sl Z6) (s:Bs):Z79_q t s=fndI t.l s:=by
 unfold Z79_q fndI on;rw [inputAux];cases t.l.find? (fun t=>t.FName==s)<;>rfl
def DefsOk (d:TDoc):Prop:=∀x∈d.FDefs.l,x.FFields.l.length<=1048576/\x.FInputs.l.length<=1048576/\(∀f∈x.FFields.l,SOk f.FType.FWraps/\f.FArgs.l.length<=1048576/\∀i∈f.FArgs.l,SOk i.FType.FWraps)/\∀i∈x.FInputs.l,SOk i.FType.FWraps
theorem TRef.sok {r:TRef}(h:r.sz<=1048576) (hw:r.wf):SOk r.FWraps:=⟨hw.2.1.1,by have:=r.sz_def; have:=Sl.len_le (f:=fun _:Int=>1) r.FWraps (fun _=>Nat.le_refl _); omega⟩
theorem Z6.sok {r:Z6}(h:r.sz<=1048576) (hw:r.wf):SOk r.FType.FWraps:=TRef.sok (by have:=r.sz_def; omega) (Z6.FType_wf hw)
theorem defsOk {d:TDoc}(h:d.sz<=1048576) (hw:d.wf):DefsOk d:=by
 intro x hx;have h1:=x.sz_def; have h2:=d.sz_def; have h3:=Sl.mem_le (f:=TDef.sz) hx;have h4:=Sl.len_lt (f:=Z4.sz) x.FFields Z4.pos; have h5:=Sl.len_lt (f:=Z6.sz) x.FInputs Z6.pos;have w:x.wf:=(TDoc.FDefs_wf hw).2.2 x hx;refine⟨by omega,by omega,fun f hf=>?_,fun i hi=>?_⟩
 ·have h6:=Sl.mem_le (f:=Z4.sz) hf; have h7:=f.sz_def; have h8:=Sl.len_lt (f:=Z6.sz) f.FArgs Z6.pos;have wf:f.wf:=(TDef.FFields_wf w).2.2 f hf;exact⟨TRef.sok (by omega) (Z4.FType_wf wf),by omega,fun i hi=>Z6.sok (by have:=Sl.mem_le (f:=Z6.sz) hi; omega) ((Z4.FArgs_wf wf).2.2 i hi)⟩
 ·exact Z6.sok (by have:=Sl.mem_le (f:=Z6.sz) hi; omega) ((TDef.FInputs_wf w).2.2 i hi)
theorem find_ok {d:TDoc}(h:DefsOk d) (s:Bs):(fnd d.FDefs.l s).1.FFields.l.length<=1048576/\(fnd d.FDefs.l s).1.FInputs.l.length<=1048576/\(∀f∈(fnd d.FDefs.l s).1.FFields.l,SOk f.FType.FWraps/\f.FArgs.l.length<=1048576/\∀i∈f.FArgs.l,SOk i.FType.FWraps)/\∀i∈(fnd d.FDefs.l s).1.FInputs.l,SOk i.FType.FWraps:=by
 rcases fnd_mem d.FDefs.l s with e|e
 ·rw [e]; exact⟨by simp [TDef.zero,Sl.nil],by simp [TDef.zero,Sl.nil],by simp [TDef.zero,Sl.nil],by simp [TDef.zero,Sl.nil]⟩
 ·exact h _ e
theorem sok_zero:SOk Z6.zero.FType.FWraps:=⟨fun _=>rfl,by decide⟩
theorem inputOk {l:List Z6}(h:∀i∈l,SOk i.FType.FWraps) (s:Bs):SOk (fndI l s).1.FType.FWraps:=by
 unfold fndI;cases e:l.find? (fun t=>t.FName==s) with
 | none=>exact sok_zero
 | some t=>exact h _ (List.mem_of_find?_eq_some e)
theorem fieldOk {l:List Z4}(h:∀f∈l,SOk f.FType.FWraps/\f.FArgs.l.length<=1048576/\∀i∈f.FArgs.l,SOk i.FType.FWraps) (s:Bs):SOk (fndF l s).1.FType.FWraps/\(fndF l s).1.FArgs.l.length<=1048576/\∀i∈(fndF l s).1.FArgs.l,SOk i.FType.FWraps:=by
 unfold fndF;cases e:l.find? (fun t=>t.FName==s) with
 | none=>exact⟨⟨fun _=>rfl,by decide⟩,by decide,fun i hi=>by cases hi⟩
 | some t=>exact h _ (List.mem_of_find?_eq_some e)
end Go.Proofs

namespace Go.Proofs
open Go Go.Ab
theorem index_value (l:List Z9) (p:Z9->Option Bool) (i:Nat) (h:∀x∈l,Ok (p x)):Ok (Z104_q6m p l i):=by
 induction l generalizing i with
 | nil=>exact Tot.some _
 | cons x r ih =>
  have hr:=ih (i+1) fun y hy=>h y (List.mem_cons_of_mem _ hy);have hx:=h x List.mem_cons_self;rw [Z104_q6m];simp only [on]
  (repeat' (first|exact Tot.some _|assumption|(with_reducible refine Tot.bind ?_ fun _ _=>?_)|(with_reducible refine Tot.guard (fun _=>?_) fun _ _ _=>?_)|(with_reducible refine Tot.cond (fun _=>?_) fun _=>?_)|(with_reducible refine Tot.on fun _ _=>?_)|split))
theorem contains_value (l:Sl Z9) (p:Z9->Option Bool) (h:∀x∈l.l,Ok (p x)):Ok (Z97_qm l p):=by
 unfold Z97_qm Z104_qm;have h1:=index_value l.l p 0 h
 (repeat' (first|exact Tot.some _|assumption|(with_reducible refine Tot.bind ?_ fun _ _=>?_)|(with_reducible refine Tot.guard (fun _=>?_) fun _ _ _=>?_)|(with_reducible refine Tot.cond (fun _=>?_) fun _=>?_)|(with_reducible refine Tot.on fun _ _=>?_)|split))
theorem object_loop (d:TDoc) (df:TDef) (v:Z9) (k:TDoc->TRef->Z9->Option Bool) (l:List Bs) (i:Nat) (h:∀t x,SOk t.FWraps->x∈v.FItems.l->Ok (k d t x)) (hd:∀i∈df.FInputs.l,SOk i.FType.FWraps):Ok (Z30_q7 d df v k l i):=by
 induction l generalizing i with
 | nil=>exact Tot.some _
 | cons x r ih =>
  have hr:=ih (i+1);rw [Z30_q7];simp only [on,inputOf_eq];have hs:=inputOk hd x;generalize fndI df.FInputs.l x=y at hs;by_cases hi:i<v.FItems.l.length
  ·obtain⟨b,hb⟩:=h _ _ hs (List.getElem_mem hi);have hd2:decide (((v.FItems.l.length:Nat):Int)<=((i:Nat):Int))=false:=by simp; omega
   simp only [List.getElem?_eq_getElem hi,hd2,Bool.or_false];cases y.2<;>simp only [guardO,Bool.not_false,Bool.not_true,if_true,Bool.false_eq_true,if_false,Option.bind_some,hb,Bool.true_or,Bool.false_or,cond_true]
   ·exact Tot.some _
   ·(repeat' (first|exact Tot.some _|assumption|(with_reducible refine Tot.bind ?_ fun _ _=>?_)|(with_reducible refine Tot.guard (fun _=>?_) fun _ _ _=>?_)|(with_reducible refine Tot.cond (fun _=>?_) fun _=>?_)|(with_reducible refine Tot.on fun _ _=>?_)|split))
  ·have hd2:decide (((v.FItems.l.length:Nat):Int)<=((i:Nat):Int))=true:=by simp; omega
   simp only [hd2,Bool.or_true,guardO,Bool.not_true,Bool.false_eq_true,if_false,Bool.true_or,cond_true];exact Tot.some _
theorem fits_tot (d:TDoc) (hd:DefsOk d) (n:Nat) :
  (∀(t:TRef) (v:Z9),SOk t.FWraps->2*(v.sz*2097152+t.FWraps.l.length)+2<n->Ok (fields_fits_qn n d t v)) /\
  (∀(v:Z9) (t:TRef),SOk t.FWraps->2*(v.sz*2097152+t.FWraps.l.length)+3<n->Ok (fields_fits_1_qn n v d t)) /\
  (∀(x:TDef) (v:Z9),(∀i∈x.FInputs.l,SOk i.FType.FWraps)->2*(v.sz*2097152)+1<n->Ok (Z30_qn n d x v)):=by
 induction n with
 | zero=>exact⟨fun _ _ _ h=>by omega,fun _ _ _ h=>by omega,fun _ _ _ h=>by omega⟩
 | succ n ih =>
  obtain⟨ih1,ih2,ih3⟩:=ih;refine⟨fun t v ht h=>?_,fun v t ht h=>?_,fun x v hx h=>?_⟩
  ·rw [fields_fits_qn];simp only [inner_eq ht,Option.bind_some,find_eq];refine Tot.cond (fun _=>Tot.some _) fun _=>Tot.on fun _ _=>Tot.cond (fun _=>Tot.some _) fun _=>Tot.cond (fun _=>Tot.on fun _ _=>Tot.some _) fun _=>?_;cases hl:liW (barS t.FWraps).l with
   | true =>
    have h1:=inner_lt hl; have h2:=innerT_ok ht; have h3:=h2.2; have h4:=ht.2;simp only [cond_true]
    (repeat' (first|exact Tot.some _|assumption|(with_reducible refine Tot.bind ?_ fun _ _=>?_)|(with_reducible refine Tot.guard (fun _=>?_) fun _ _ _=>?_)|(with_reducible refine Tot.cond (fun _=>?_) fun _=>?_)|(with_reducible refine Tot.on fun _ _=>?_)|split))
    ·exact ih1 _ _ h2 (by omega)
    ·exact contains_value _ _ fun x hx=>ih2 x _ h2 (by have:=Z9.item_lt hx; omega)
   | false =>
    simp only [cond_false]
    (repeat' (first|exact Tot.some _|assumption|(with_reducible refine Tot.bind ?_ fun _ _=>?_)|(with_reducible refine Tot.guard (fun _=>?_) fun _ _ _=>?_)|(with_reducible refine Tot.cond (fun _=>?_) fun _=>?_)|(with_reducible refine Tot.on fun _ _=>?_)|split))
    rename_i hx _ _
    rw [hx];exact ih3 _ _ (find_ok hd _).2.2.2 (by omega)
  ·rw [fields_fits_1_qn];exact Tot.bind (ih1 t v ht (by omega)) fun _ _=>Tot.some _
  ·rw [Z30_qn];have h1:=object_loop d x v (fields_fits_qn n) v.FKeys.l 0 (fun t y ht hy=>ih1 t y ht (by have:=Z9.item_lt hy; have:=ht.2; omega)) hx
   (repeat' (first|exact Tot.some _|assumption|(with_reducible refine Tot.bind ?_ fun _ _=>?_)|(with_reducible refine Tot.guard (fun _=>?_) fun _ _ _=>?_)|(with_reducible refine Tot.cond (fun _=>?_) fun _=>?_)|(with_reducible refine Tot.on fun _ _=>?_)|split))
def fitsB (d:TDoc) (t:TRef) (v:Z9):Bool:=(fields_fits_q d t v).getD false
theorem fits_eq {d:TDoc}(hd:DefsOk d){t:TRef}{v:Z9}(ht:SOk t.FWraps) (hv:v.sz<=1048576):fields_fits_q d t v=some (fitsB d t v):=by
 obtain⟨b,hb⟩:=(fits_tot d hd F0).1 t v ht (by have:=ht.2; rw [F0_eq]; omega);have:fields_fits_q d t v=some b:=hb;simp [fitsB,this]
end Go.Proofs

namespace Go.Proofs
open Go Go.Ab
def addF (c:Z0) (X:List Z3):Z0:=⟨c.Fd,c.Fq,⟨c.Fout.nl&&X.isEmpty,c.Fout.l++X⟩⟩
theorem addF_nil (c:Z0):addF c []=c:=by obtain⟨d,q,nl,l⟩:=c; simp [addF]
theorem addF_add (c:Z0) (X Y:List Z3):addF (addF c X) Y=addF c (X++Y):=by
 cases X<;>cases Y<;>simp [addF]
def Eff (d:TDoc) (f:Z0->Option Z0) (X:List Z3):Prop:=∀c,c.Fd=d->c.Fout.l.length+X.length<=4398046511104->f c=some (addF c X)
theorem Eff.bind {d:TDoc}{f g:Z0->Option Z0}{X Y:List Z3}(h:Eff d f X) (h2:Eff d g Y):Eff d (fun c=>(f c).bind g) (X++Y):=by
 intro c hc hb;simp only [List.length_append] at hb;show (f c).bind g=_;rw [h c hc (by omega),Option.bind_some,h2 (addF c X) hc (by simp only [addF,List.length_append]; omega),addF_add]
theorem Eff.id {d:TDoc}:Eff d (fun c=>some c) []:=fun c _ _=>by rw [addF_nil]
theorem Eff.of {d:TDoc}{f g:Z0->Option Z0}{X Y:List Z3}(h:Eff d g Y) (e:X=Y) (h2:∀c,c.Fd=d->f c=g c):Eff d f X:=by
 subst e; intro c hc hb; rw [h2 c hc]; exact h c hc hb
theorem Eff.cond {d:TDoc}{f g:Z0->Option Z0}{X Y:List Z3}(b:Bool) (h:Eff d f X) (h2:Eff d g Y):Eff d (fun c=>_root_.cond b (f c) (g c)) (_root_.cond b X Y):=by cases b<;>assumption
def flt (b:Bool) (e:Int) (at_:Bs):List Z3:=bif b then [⟨e,at_⟩] else []
theorem add_eff (d:TDoc) (b:Bool) (e:Int) (at_:Bs):Eff d (fun c=>Z21_q c b e at_) (flt b e at_):=by
 intro c hc hb;show Z21_q c b e at_=_;unfold Z21_q flt at *;cases b with
 | false=>rw [cond_false,cond_false,addF_nil]
 | true =>
  simp only [cond_true,List.length_cons,List.length_nil] at hb ⊢;rw [appC_ok32 (by omega) (by simp only [List.length_cons,List.length_nil]; omega)];rfl
def badV (v:Z9):Bool:=(decide (v.FKind=7)||(decide (v.FKind=3)&&(v.FText==[])))||(decide (v.FKind=2)&&decide (v.FInt<0))
def knownX (d:TDoc) (defs:Sl Z6) (all:Sl TArg) (strict:Bool) (at_:Bs):List TArg->Nat->List Z3
 | [],_=>[]
 | x::r,i=>(bif (!(fndI defs.l x.FName).2)||(Z28_q ⟨all.nl,all.l.take i⟩ x.FName).2 then flt true 22 at_ else flt ((!fitsB d (fndI defs.l x.FName).1.FType x.FValue)||(strict&&badV x.FValue)) 23 at_)++knownX d defs all strict at_ r (i+1)
theorem known_loop {d:TDoc}(hd:DefsOk d) (defs:Sl Z6) (hs:∀i∈defs.l,SOk i.FType.FWraps) (all:Sl TArg) (strict:Bool) (at_:Bs) (l:List TArg) (i:Nat) (hl:∀a∈l,a.sz<=1048576) :
  Eff d (fun c=>Z25_q3 defs all strict at_ l i c) (knownX d defs all strict at_ l i):=by
 induction l generalizing i with
 | nil=>exact Eff.id
 | cons x r ih =>
  have hx:=hl x List.mem_cons_self;refine Eff.of ((Eff.cond _ (add_eff d true 22 at_) (add_eff d ((!fitsB d (fndI defs.l x.FName).1.FType x.FValue)||(strict&&badV x.FValue)) 23 at_)).bind (ih (i+1) fun y hy=>hl y (List.mem_cons_of_mem _ hy))) rfl fun c hc=>?_;rw [Z25_q3];simp only [on,inputOf_eq,hc,fits_eq hd (inputOk hs x.FName) (show x.FValue.sz<=1048576 by have:=x.value_le; omega),Option.bind_some,badV,Q.some_bind]
theorem known_eff {d:TDoc}(hd:DefsOk d) (defs:Sl Z6) (hs:∀i∈defs.l,SOk i.FType.FWraps) (all:Sl TArg) (strict:Bool) (at_:Bs) (hl:∀a∈all.l,a.sz<=1048576) :
  Eff d (fun c=>Z25_q c defs all strict at_) (knownX d defs all strict at_ all.l 0):=by
 refine Eff.of (known_loop hd defs hs all strict at_ all.l 0 hl) rfl fun c hc=>?_;unfold Z25_q;exact Q.some_bind _
def missX (at_:Bs) (x:Sl TArg):List Z6->List Z3
 | []=>[]
 | y::r=>flt (!(Z28_q x y.FName).2) 22 at_++missX at_ x r
theorem miss_eff (d:TDoc) (at_:Bs) (x:TDir) (l:List Z6):Eff d (fun c=>Z22_q30 at_ x l c) (missX at_ x.FArgs l):=by
 induction l with
 | nil=>exact Eff.id
 | cons y r ih=>exact Eff.of ((add_eff d _ 22 at_).bind ih) rfl fun c hc=>by rw [Z22_q30]; rfl
def needX (at_:Bs) (x:Sl TArg):List Z6->List Z3
 | []=>[]
 | y::r=>flt ((Z116_q y.FType&&!y.FHas)&&!(Z28_q x y.FName).2) 22 at_++needX at_ x r
theorem need_eff (d:TDoc) (at_:Bs) (x:TSel) (l:List Z6):Eff d (fun c=>Z24_q37 x at_ l c) (needX at_ x.FArgs l):=by
 induction l with
 | nil=>exact Eff.id
 | cons y r ih=>exact Eff.of ((add_eff d _ 22 at_).bind ih) rfl fun c hc=>by rw [Z24_q37]; rfl
def needT (s t:Bs):Z6:=⟨s,⟨t,⟨false,[1]⟩⟩,false,Z9.zero,Sl.nil⟩
def argsX (name:Bs) (field:Bool):Sl Z6 :=
 bif (name==[115,107,105,112])||(name==[105,110,99,108,117,100,101]) then⟨false,[needT [105,102] [66,111,111,108,101,97,110]]⟩
 else bif (name==[100,101,102,101,114])&&!field then⟨false,[needT [108,97,98,101,108] [83,116,114,105,110,103]]⟩
 else bif (name==[115,116,114,101,97,109])&&field then⟨false,[needT [108,97,98,101,108] [83,116,114,105,110,103],needT [105,110,105,116,105,97,108,67,111,117,110,116] [73,110,116]]⟩
 else Sl.nil
theorem needed_eq (s t:Bs):Z29_q s t=some (needT s t):=by
 unfold Z29_q Z118_q;simp only [on,isNonNull_eq,Z117_q,Sl.nil,nnW,List.head?_nil];rw [show (none==some (1:Int))=false from rfl,cond_false];rw [appC_ok (by omega) (by simp)];rfl
theorem argsOf_eq (name:Bs) (field:Bool):Z20_q name field=some (argsX name field):=by
 unfold Z20_q argsX;simp only [needed_eq,Option.bind_some];cases (name==[115,107,105,112])||(name==[105,110,99,108,117,100,101])<;>cases (name==[100,101,102,101,114])&&!field<;>cases (name==[115,116,114,101,97,109])&&field<;>rfl
theorem argsX_ok (name:Bs) (field:Bool):(argsX name field).l.length<=2/\∀i∈(argsX name field).l,SOk i.FType.FWraps:=by
 have h:∀s t,SOk (needT s t).FType.FWraps:=fun s t=>⟨fun h=>(by cases h),by simp [needT]⟩;unfold argsX;cases (name==[115,107,105,112])||(name==[105,110,99,108,117,100,101])<;>cases (name==[100,101,102,101,114])&&!field<;>cases (name==[115,116,114,101,97,109])&&field<;>simp [Sl.nil,h]
def defsX (field:Bool) (t:TRef) (is:Bool) (x:TDir):Sl Z6:=bif ((x.FName==[115,116,114,101,97,109])&&is)&&!(liW (barS t.FWraps).l) then Sl.nil else argsX x.FName field
def dirX (d:TDoc) (s:TSel) (t:TRef) (is:Bool) (at_:Bs) (x:TDir) (i:Nat):List Z3 :=
 bif (defsX ((!decide (s.FKind=2))&&!decide (s.FKind=3)) t is x).nl||(bif !(defsX ((!decide (s.FKind=2))&&!decide (s.FKind=3)) t is x).nl then Z98_q (bif !(defsX ((!decide (s.FKind=2))&&!decide (s.FKind=3)) t is x).nl then⟨s.FDirs.nl,s.FDirs.l.take i⟩ else Sl.nil) (fun y=>Z23_q y x) else false) then flt true 29 at_
 else knownX d (defsX ((!decide (s.FKind=2))&&!decide (s.FKind=3)) t is x) x.FArgs ((x.FName==[100,101,102,101,114])||(x.FName==[115,116,114,101,97,109])) at_ x.FArgs.l 0++missX at_ x.FArgs (defsX ((!decide (s.FKind=2))&&!decide (s.FKind=3)) t is x).l
def dirsX (d:TDoc) (s:TSel) (t:TRef) (is:Bool) (at_:Bs):List TDir->Nat->List Z3
 | [],_=>[]
 | x::r,i=>dirX d s t is at_ x i++dirsX d s t is at_ r (i+1)
theorem defsX_ok (field:Bool) (t:TRef) (is:Bool) (x:TDir):(defsX field t is x).l.length<=2/\∀i∈(defsX field t is x).l,SOk i.FType.FWraps:=by
 unfold defsX;cases ((x.FName==[115,116,114,101,97,109])&&is)&&!(liW (barS t.FWraps).l) with
 | true=>exact⟨by simp [Sl.nil],fun i hi=>by cases hi⟩
 | false=>exact argsX_ok _ _
theorem guard_isList {α:Type}(b:Bool){t:TRef}(h:SOk t.FWraps) (k:Bool->Option α):guardO b (Z115_q t) false k=k (b&&liW (barS t.FWraps).l):=by
 cases b with
 | false=>rfl
 | true=>rw [isList_eq h]; rfl
theorem dirs_loop {d:TDoc}(hd:DefsOk d) (s:TSel){t:TRef}(ht:SOk t.FWraps) (is:Bool) (at_:Bs) (l:List TDir) (i:Nat) (hl:∀a∈l,a.sz<=1048576) :
  Eff d (fun c=>Z22_q4 s t is at_ l i c) (dirsX d s t is at_ l i):=by
 induction l generalizing i with
 | nil=>exact Eff.id
 | cons x r ih =>
  have hx:=hl x List.mem_cons_self;have hk:=known_eff hd (defsX ((!decide (s.FKind=2))&&!decide (s.FKind=3)) t is x) (defsX_ok _ _ _ _).2 x.FArgs ((x.FName==[100,101,102,101,114])||(x.FName==[115,116,114,101,97,109])) at_ fun a ha=>by have:=TDir.arg_le ha; omega
  refine Eff.of ((Eff.cond _ (add_eff d true 29 at_) (hk.bind (miss_eff d at_ x _))).bind (ih (i+1) fun y hy=>hl y (List.mem_cons_of_mem _ hy))) rfl fun c hc=>?_;rw [Z22_q4];simp only [on,argsOf_eq,Option.bind_some,guard_isList _ ht,Q.some_bind];have e:(bif ((x.FName==[115,116,114,101,97,109])&&is)&&!((x.FName==[115,116,114,101,97,109])&&is&&liW (barS t.FWraps).l) then(Sl.nil:Sl Z6) else argsX x.FName ((!decide (s.FKind=2))&&!decide (s.FKind=3)))=defsX ((!decide (s.FKind=2))&&!decide (s.FKind=3)) t is x:=by
   unfold defsX;cases ((x.FName==[115,116,114,101,97,109])&&is)<;>rfl
  simp only [e]
theorem dirs_eff {d:TDoc}(hd:DefsOk d) (s:TSel){t:TRef}(ht:SOk t.FWraps) (is:Bool) (at_:Bs) (hl:∀a∈s.FDirs.l,a.sz<=1048576) :
  Eff d (fun c=>Z22_q c s t is at_) (dirsX d s t is at_ s.FDirs.l 0):=by
 refine Eff.of (dirs_loop hd s ht is at_ s.FDirs.l 0 hl) rfl fun c hc=>?_;unfold Z22_q;exact Q.some_bind _
end Go.Proofs

namespace Go.Proofs
open Go Go.Ab
def sTypename:Bs:=[95,95,116,121,112,101,110,97,109,101]
def typeX (d:TDoc) (on_ f:Bs):TRef×Bool :=
 bif !Z76_q d on_ then(⟨[],Sl.nil⟩,false)
 else bif f==sTypename then(⟨[83,116,114,105,110,103],⟨false,[1]⟩⟩,true)
 else bif !(fndF (fnd d.FDefs.l on_).1.FFields.l f).2 then(⟨[],Sl.nil⟩,false)
 else(⟨(fndF (fnd d.FDefs.l on_).1.FFields.l f).1.FType.FName,(fndF (fnd d.FDefs.l on_).1.FFields.l f).1.FType.FWraps⟩,true)
theorem type_eq {d:TDoc}(hd:DefsOk d) (on_ f:Bs):Z19_q d on_ f=some (typeX d on_ f):=by
 unfold Z19_q typeX;simp only [on,find_eq,fieldOf_eq,Z117_q,clone_eq (fieldOk (find_ok hd on_).2.2.1 f).1,Option.bind_some];have hs:Z118_q ⟨[83,116,114,105,110,103],Sl.nil⟩=some ⟨[83,116,114,105,110,103],⟨false,[1]⟩⟩:=by kernel_rfl
 rw [hs];cases Z76_q d on_ with
 | false=>rfl
 | true =>
  simp only [Bool.not_true,cond_false];show (bif f==sTypename then _ else _)=some (bif f==sTypename then _ else _);cases f==sTypename with
  | true=>rfl
  | false =>
   simp only [cond_false];cases (fndF (fnd d.FDefs.l on_).1.FFields.l f).2<;>rfl
theorem typeX_ok {d:TDoc}(hd:DefsOk d) (on_ f:Bs):SOk (typeX d on_ f).1.FWraps:=by
 have h1:=(fieldOk (find_ok hd on_).2.2.1 f).1;unfold typeX;cases Z76_q d on_ with
 | false=>exact⟨fun _=>rfl,by simp [Sl.nil]⟩
 | true =>
  simp only [Bool.not_true,cond_false];cases f==sTypename with
  | true=>exact⟨fun h=>(by cases h),by simp⟩
  | false =>
   simp only [cond_false];cases (fndF (fnd d.FDefs.l on_).1.FFields.l f).2 with
   | false=>exact⟨fun _=>rfl,by simp [Sl.nil]⟩
   | true=>exact h1
def keyX (s:TSel):Bs:=bif s.FAlias==[] then s.FName else s.FAlias
def placeX (s:TSel) (at_:Bs):Bs:=at_++([47]++keyX s)
def defX (d:TDoc) (s:TSel) (on_:Bs):Z4:=bif !(s.FName==sTypename) then(fndF (fnd d.FDefs.l on_).1.FFields.l s.FName).1 else⟨[],Sl.nil,TRef.zero,Sl.nil⟩
def leafX (d:TDoc) (s:TSel) (t:TRef) (at_:Bs):List Z3 :=
 flt ((Z81_q d t.FName&&decide ((0:Int)<((s.FSels.l.length:Nat):Int)))||((bif !(Z81_q d t.FName&&decide ((0:Int)<((s.FSels.l.length:Nat):Int))) then Z76_q d t.FName else false)&&decide (((s.FSels.l.length:Nat):Int)=0))) 21 at_
def ownX (d:TDoc) (s:TSel) (on_ at_:Bs):List Z3 :=
 flt (Z113_q s.FAlias) 6 at_++(flt ((!(typeX d on_ s.FName).2)&&(bif !(typeX d on_ s.FName).2 then Z76_q d on_ else false)) 20 at_ ++
  ((bif (typeX d on_ s.FName).2 then leafX d s (typeX d on_ s.FName).1 at_++(knownX d (defX d s on_).FArgs s.FArgs false at_ s.FArgs.l 0++needX at_ s.FArgs (defX d s on_).FArgs.l) else []) ++
   dirsX d s (typeX d on_ s.FName).1 (typeX d on_ s.FName).2 at_ s.FDirs.l 0))
def selX (k:List TSel->Bs->Bs->List Z3) (d:TDoc) (on_ at_:Bs) (s:TSel):List Z3 :=
 bif decide (s.FKind=2) then dirsX d s ⟨[],Sl.nil⟩ false at_ s.FDirs.l 0
 else bif decide (s.FKind=3) then dirsX d s ⟨[],Sl.nil⟩ false at_ s.FDirs.l 0++k s.FSels.l (bif !(s.FOn==[]) then s.FOn else on_) at_
 else ownX d s on_ (placeX s at_)++k s.FSels.l (typeX d on_ s.FName).1.FName (placeX s at_)
def selsX:Nat->TDoc->List TSel->Bs->Bs->List Z3
 | 0,_,_,_,_=>[]
 | n+1,d,l,on_,at_=>l.flatMap (selX (selsX n d) d on_ at_)
theorem defX_ok {d:TDoc}(hd:DefsOk d) (s:TSel) (on_:Bs):(defX d s on_).FArgs.l.length<=1048576/\∀i∈(defX d s on_).FArgs.l,SOk i.FType.FWraps:=by
 unfold defX;cases s.FName==sTypename with
 | true=>exact⟨by simp [Sl.nil],fun i hi=>by cases hi⟩
 | false=>exact(fieldOk (find_ok hd on_).2.2.1 _).2
theorem nil_ok:SOk (TRef.mk [] Sl.nil).FWraps:=⟨fun _=>rfl,by simp [Sl.nil]⟩
theorem TSel.dir_le {s:TSel}(hs:s.sz<=1048576):(∀a∈s.FDirs.l,a.sz<=1048576)/\∀a∈s.FArgs.l,a.sz<=1048576:=by
 have h:=s.sz_def;exact⟨fun a ha=>by have:=Sl.mem_le (f:=TDir.sz) ha; omega,fun a ha=>by have:=Sl.mem_le (f:=TArg.sz) ha; omega⟩
theorem TSel.key_le (s:TSel) (at_:Bs):(placeX s at_).length+Sl.sz TSel.sz s.FSels<=at_.length+s.sz:=by
 have h:=s.sz_def;have h1:Bs.sz s.FAlias=s.FAlias.length+1:=rfl;have h2:Bs.sz s.FName=s.FName.length+1:=rfl;unfold placeX keyX;cases s.FAlias==[]<;>simp<;>omega
theorem loop_eff {d:TDoc}(on_ at_:Bs) (k:Z0->Sl TSel->Bs->Bs->Option Z0) (kf:Z0->TSel->Bs->Bs->Option Z0) (X:TSel->List Z3) (l:List TSel)
  (h:∀s∈l,Eff d (fun c=>bif decide (s.FKind=2) then(Z22_q c s ⟨[],Sl.nil⟩ false at_) else(bif decide (s.FKind=3) then((Z22_q c s ⟨[],Sl.nil⟩ false at_).bind fun x=>k x s.FSels (bif !(s.FOn==[]) then s.FOn else on_) at_) else(kf c s on_ at_))) (X s)) :
  Eff d (fun c=>fields_checker_sels_q3 on_ at_ k kf l c) (l.flatMap X):=by
 induction l with
 | nil=>exact Eff.id
 | cons s r ih =>
  refine Eff.of ((h s List.mem_cons_self).bind (ih fun y hy=>h y (List.mem_cons_of_mem _ hy))) (by simp) fun c hc=>?_;rw [fields_checker_sels_q3];simp only [on,Q.some_bind]
theorem add_bind {c:Z0}{b:Bool}{e:Int}{a:Bs}{k k':Z0->Option Z0}(h:∀x:Z0,x.Fd=c.Fd->k x=k' x):(Z21_q c b e a).bind k=(Z21_q c b e a).bind k':=by
 unfold Z21_q;cases b with
 | false=>exact h c rfl
 | true =>
  simp only [cond_true];cases appC 24 c.Fout ⟨false,[⟨e,a⟩]⟩ with
  | none=>rfl
  | some x=>exact h _ rfl
theorem sels_tot {d:TDoc}(hd:DefsOk d) (n:Nat) :
  (∀(l:Sl TSel) (on_ at_:Bs) (m:Nat),2*Sl.sz TSel.sz l<n->Sl.sz TSel.sz l<=1048576->at_.length+Sl.sz TSel.sz l<=1073741824->Sl.sz TSel.sz l<=m->Eff d (fun c=>fields_checker_sels_qn n c l on_ at_) (selsX m d l.l on_ at_)) /\
  (∀(s:TSel) (on_ at_:Bs) (m:Nat),2*s.sz<n->s.sz<=1048576->at_.length+s.sz<=1073741824->s.sz<=m->Eff d (fun c=>Z24_qn n c s on_ at_) (ownX d s on_ (placeX s at_)++selsX m d s.FSels.l (typeX d on_ s.FName).1.FName (placeX s at_))):=by
 induction n with
 | zero=>exact⟨fun _ _ _ _ h=>by omega,fun _ _ _ _ h=>by omega⟩
 | succ n ih =>
  obtain⟨ih1,ih2⟩:=ih;refine⟨fun l on_ at_ m h1 h2 h3 h4=>?_,fun s on_ at_ m h1 h2 h3 h4=>?_⟩
  ·obtain⟨m,rfl⟩:∃k,m=k+1:=⟨m-1,by have:1<=Sl.sz TSel.sz l:=Sl.sz_pos _ _; omega⟩;refine Eff.of (loop_eff on_ at_ (fields_checker_sels_qn n) (Z24_qn n) (selX (selsX m d) d on_ at_) l.l fun s hs=>?_) rfl fun c hc=>by rw [fields_checker_sels_qn]; exact Q.some_bind _
   have h5:=Sl.mem_le (f:=TSel.sz) hs;have h6:=s.sub_lt;have h7:=TSel.dir_le (s:=s) (by omega);unfold selX;exact Eff.cond _ (dirs_eff hd s nil_ok false at_ h7.1) (Eff.cond _ ((dirs_eff hd s nil_ok false at_ h7.1).bind (ih1 _ _ _ m (by omega) (by omega) (by omega) (by omega))) (ih2 s on_ at_ m (by omega) (by omega) (by omega) (by omega)))
  ·have h6:=s.sub_lt;have h7:=TSel.dir_le (s:=s) (by omega);have h8:=s.key_le at_;have hk:(keyX s).length+1<=s.sz:=by have:=s.sz_def; unfold placeX at h8; simp at h8; omega
   have e1:catC [47] (keyX s)=some ([47]++keyX s):=catC_ok (by simp; omega);have e2:catC at_ ([47]++keyX s)=some (placeX s at_):=catC_ok (by simp; omega);have hD:=defX_ok hd s on_;have hT:=typeX_ok hd on_ s.FName;have hmid:Eff d (fun c=>Option.bind (bif (typeX d on_ s.FName).2 then((Z21_q c ((Z81_q d (typeX d on_ s.FName).1.FName&&decide ((0:Int)<((s.FSels.l.length:Nat):Int)))||((bif !(Z81_q d (typeX d on_ s.FName).1.FName&&decide ((0:Int)<((s.FSels.l.length:Nat):Int))) then Z76_q d (typeX d on_ s.FName).1.FName else false)&&decide (((s.FSels.l.length:Nat):Int)=0))) 21 (placeX s at_)).bind fun x=>(Z25_q x (defX d s on_).FArgs s.FArgs false (placeX s at_)).bind fun y=>Z24_q37 s (placeX s at_) (defX d s on_).FArgs.l y) else some c) fun y=>Z22_q y s (typeX d on_ s.FName).1 (typeX d on_ s.FName).2 (placeX s at_)) ((bif (typeX d on_ s.FName).2 then leafX d s (typeX d on_ s.FName).1 (placeX s at_)++(knownX d (defX d s on_).FArgs s.FArgs false (placeX s at_) s.FArgs.l 0++needX (placeX s at_) s.FArgs (defX d s on_).FArgs.l) else []) ++
   dirsX d s (typeX d on_ s.FName).1 (typeX d on_ s.FName).2 (placeX s at_) s.FDirs.l 0) :=
    (Eff.cond _ ((add_eff d _ 21 _).bind ((known_eff hd _ hD.2 s.FArgs false _ h7.2).bind (need_eff d _ s _))) Eff.id).bind (dirs_eff hd s hT _ _ h7.1)
   refine Eff.of (((add_eff d (Z113_q s.FAlias) 6 (placeX s at_)).bind ((add_eff d ((!(typeX d on_ s.FName).2)&&(bif !(typeX d on_ s.FName).2 then Z76_q d on_ else false)) 20 (placeX s at_)).bind hmid)).bind (ih1 s.FSels (typeX d on_ s.FName).1.FName (placeX s at_) m (by omega) (by omega) (by omega) (by omega))) rfl fun c hc=>?_;rw [Z24_qn];simp only [on,find_eq,fieldOf_eq,Q.some_bind];show ((catC [47] (keyX s)).bind fun x6=>(catC at_ x6).bind _)=_
   rw [e1,Option.bind_some,e2,Option.bind_some];simp only [Option.bind_assoc];refine add_bind fun x10 h10=>?_;simp only [h10,hc,type_eq hd,Option.bind_some];refine add_bind fun x15 h15=>?_;simp only [h15,h10,hc];refine congrArg (fun z=>Option.bind (cond _ z _) _) ?_;refine add_bind fun x27 h27=>?_;simp only [h27,h15,h10,hc];rfl
end Go.Proofs

namespace Go.Proofs
open Go Go.Ab
def unseen (fr:Sl Z5) (seen:List Bs):Nat:=(fr.l.filter fun f=>!seen.contains f.FName).length
theorem filter_le {α:Type}{p q:α->Bool}{l:List α}(h:∀x∈l,p x=true->q x=true):(l.filter p).length<=(l.filter q).length:=by
 induction l with
 | nil=>simp
 | cons a r ih =>
  have:=ih fun x hx=>h x (List.mem_cons_of_mem _ hx);have h1:=h a List.mem_cons_self;simp only [List.filter_cons];cases hp:p a<;>cases hq:q a<;>simp_all<;>omega
theorem filter_lt {α:Type}{p q:α->Bool}{l:List α}{y:α}(h:∀x∈l,p x=true->q x=true) (hy:y∈l) (h1:p y=false) (h2:q y=true):(l.filter p).length<(l.filter q).length:=by
 induction l with
 | nil=>cases hy
 | cons a r ih =>
  have h3:=filter_le (l:=r) (p:=p) (q:=q) fun x hx=>h x (List.mem_cons_of_mem _ hx);simp only [List.filter_cons];rcases List.mem_cons.1 hy with rfl|hy
  ·simp [h1,h2]; omega
  ·have:=ih (fun x hx=>h x (List.mem_cons_of_mem _ hx)) hy;have h4:=h a List.mem_cons_self;cases hp:p a<;>cases hq:q a<;>simp_all<;>omega
theorem unseen_le {fr:Sl Z5}{a b:List Bs}(h:∀s∈a,s∈b):unseen fr b<=unseen fr a:=filter_le fun x _ hp=>by
 simp at hp ⊢; exact fun h2=>hp (h _ h2)
theorem unseen_lt {fr:Sl Z5}{a b:List Bs}(h:∀s∈a,s∈b){f:Z5}(hf:f∈fr.l) (h1:f.FName∉a) (h2:f.FName∈b):unseen fr b<unseen fr a :=
 filter_lt (fun x _ hp=>by simp at hp ⊢; exact fun h2=>hp (h _ h2)) hf (by simpa using h2) (by simpa using h1)
theorem mem_insS {l:List Bs}{s t:Bs}(h:t∈l):t∈insS l s:=by unfold insS; split<;>simp [h]
theorem self_insS (l:List Bs) (s:Bs):s∈insS l s:=by
 unfold insS; split
 ·rename_i h; simpa using h
 ·simp
def Root (fr:Sl Z5) (f:Z0->Option (List Bs×List Bs)) (seen:List Bs):Prop:=∃r,(∀c:Z0,c.Fq.FFrags=fr->f c=some r)/\∀s∈seen,s∈r.2
theorem Root.bind {fr:Sl Z5}{f:Z0->Option (List Bs×List Bs)}{g:Z0->List Bs×List Bs->Option (List Bs×List Bs)}{seen:List Bs}(h:Root fr f seen) (h2:∀r:List Bs×List Bs,(∀s∈seen,s∈r.2)->Root fr (fun c=>g c r) r.2):Root fr (fun c=>(f c).bind (g c)) seen:=by
 obtain⟨r,h3,h4⟩:=h;obtain⟨r2,h5,h6⟩:=h2 r h4;exact⟨r2,fun c hc=>by show (f c).bind _=_; rw [h3 c hc,Option.bind_some]; exact h5 c hc,fun s hs=>h6 s (h4 s hs)⟩
theorem Root.some {fr:Sl Z5}{r:List Bs×List Bs}{seen:List Bs}(h:∀s∈seen,s∈r.2):Root fr (fun _=>Option.some r) seen:=⟨r,fun _ _=>rfl,h⟩
theorem roots_in {fr:Sl Z5}(x:TSel) (k:Z0->Sl TSel->List Bs->List Bs->Option (List Bs×List Bs)) (seen0:List Bs) (l:List Z5) (hl:∀f∈l,f∈fr.l)
  (hk:∀(f:Z5) keys seen,f∈fr.l->unseen fr seen<unseen fr seen0->Root fr (fun c=>k c f.FSels keys seen) seen) (keys seen:List Bs) (hs:∀s∈seen0,s∈seen):Root fr (fun c=>Z26_q23 c x k l keys seen) seen:=by
 induction l generalizing keys seen with
 | nil=>exact Root.some fun _ h=>h
 | cons f r ih =>
  have ih:=ih fun y hy=>hl y (List.mem_cons_of_mem _ hy);have hf:=hl f List.mem_cons_self;have key:Root fr (fun c=>bif (((f.FName==x.FName))&&(!(seen.contains x.FName))) then((k c f.FSels keys (insS seen x.FName)).bind fun x38=>some (x38.1,x38.2)) else(some (keys,seen))) seen:=by
   cases hc:((f.FName==x.FName))&&(!(seen.contains x.FName)) with
   | false=>exact Root.some fun _ h=>h
   | true =>
    simp at hc;have h1:unseen fr (insS seen x.FName)<unseen fr seen0:=Nat.lt_of_lt_of_le (unseen_lt (fun s h=>mem_insS h) hf (by rw [hc.1]; exact hc.2) (by rw [hc.1]; exact self_insS _ _)) (unseen_le hs);obtain⟨r,h2,h3⟩:=hk f keys (insS seen x.FName) hf h1;exact⟨r,fun c hcc=>by show Option.bind _ _=_; rw [show k c f.FSels keys (insS seen x.FName)=_ from h2 c hcc]; rfl,fun s h=>h3 s (mem_insS h)⟩
  obtain⟨r1,h1,h2⟩:=key.bind (g:=fun c z=>Z26_q23 c x k r z.1 z.2) fun z hz=>ih z.1 z.2 fun s h=>hz s (hs s h);exact⟨r1,fun c hc=>by show Z26_q23 c x k (f::r) keys seen=_; rw [Z26_q23]; exact h1 c hc,h2⟩
theorem roots_loop {fr:Sl Z5}(k:Z0->Sl TSel->List Bs->List Bs->Option (List Bs×List Bs)) (seen0:List Bs) (l:List TSel)
  (hk:∀(f:Z5) keys seen,f∈fr.l->unseen fr seen<unseen fr seen0->Root fr (fun c=>k c f.FSels keys seen) seen)
  (hk2:∀(s:TSel) keys seen,s∈l->(∀x∈seen0,x∈seen)->Root fr (fun c=>k c s.FSels keys seen) seen) (keys seen:List Bs) (hs:∀s∈seen0,s∈seen):Root fr (fun c=>Z26_q3 c k l keys seen) seen:=by
 induction l generalizing keys seen with
 | nil=>exact Root.some fun _ h=>h
 | cons x r ih =>
  have ih:=ih fun s ks sn h=>hk2 s ks sn (List.mem_cons_of_mem _ h);have key:Root fr (fun c=>bif (decide (x.FKind=(3:Int))) then((k c x.FSels keys seen).bind fun x18=>some (x18.1,x18.2)) else(bif (decide (x.FKind=(2:Int))) then(Option.bind (Z26_q23 c x k c.Fq.FFrags.l keys seen) fun z23=>some (z23.1,z23.2)) else(bif (!(x.FAlias==([]:Bs))) then(some ((insS keys x.FAlias),seen)) else(some ((insS keys x.FName),seen))))) seen:=by
   cases decide (x.FKind=(3:Int)) with
   | true =>
    obtain⟨r,h2,h3⟩:=hk2 x keys seen List.mem_cons_self hs;exact⟨r,fun c hcc=>by show Option.bind _ _=_; rw [show k c x.FSels keys seen=_ from h2 c hcc]; rfl,h3⟩
   | false =>
    cases decide (x.FKind=(2:Int)) with
    | true =>
     obtain⟨r,h2,h3⟩:=roots_in x k seen0 fr.l (fun f hf=>hf) hk keys seen hs;exact⟨r,fun c hcc=>by show Option.bind (Z26_q23 c x k c.Fq.FFrags.l keys seen) _=_; rw [hcc,show Z26_q23 c x k fr.l keys seen=_ from h2 c hcc]; rfl,h3⟩
    | false =>
     cases !(x.FAlias==([]:Bs)) with
     | true=>exact Root.some (r:=(insS keys x.FAlias,seen)) fun _ h=>h
     | false=>exact Root.some (r:=(insS keys x.FName,seen)) fun _ h=>h
  obtain⟨r1,h1,h2⟩:=key.bind (g:=fun c z=>Z26_q3 c k r z.1 z.2) fun z hz=>ih z.1 z.2 fun s h=>hz s (hs s h);exact⟨r1,fun c hc=>by show Z26_q3 c k (x::r) keys seen=_; rw [Z26_q3]; exact h1 c hc,h2⟩
theorem roots_tot {fr:Sl Z5}(hfr:∀f∈fr.l,Sl.sz TSel.sz f.FSels<=1048576) (n:Nat):∀(l:Sl TSel) (keys seen:List Bs),Sl.sz TSel.sz l<=1048576->Sl.sz TSel.sz l+unseen fr seen*2097152<n->Root fr (fun c=>Z26_qn n c l keys seen) seen:=by
 induction n with
 | zero=>intro l keys seen _ h; omega
 | succ n ih =>
  intro l keys seen h1 h2;obtain⟨r,h3,h4⟩:=roots_loop (fr:=fr) (Z26_qn n) seen l.l (fun f ks sn hf hu=>ih _ _ _ (hfr f hf) (by have:=hfr f hf; omega))
   (fun s ks sn hs hsn=>ih _ _ _ (by have:=Sl.mem_le (f:=TSel.sz) hs; have:=s.sub_lt; omega) (by have:=Sl.mem_le (f:=TSel.sz) hs; have:=s.sub_lt; have:=unseen_le (fr:=fr) hsn; omega)) keys seen fun _ h=>h
  exact⟨r,fun c hc=>by show Z26_qn (n+1) c l keys seen=_; rw [Z26_qn]; rw [show Z26_q3 c (Z26_qn n) l.l keys seen=_ from h3 c hc]; rfl,h4⟩
def bare (fr:Sl Z5):Z0:=⟨⟨Sl.nil⟩,⟨Sl.nil,fr⟩,Sl.nil⟩
def keysX (fr:Sl Z5) (l:Sl TSel):List Bs:=((Z26_q (bare fr) l [] []).getD ([],[])).1
theorem roots_eq {fr:Sl Z5}(hfr:∀f∈fr.l,Sl.sz TSel.sz f.FSels<=1048576) (hl:fr.l.length<=1048576) (l:Sl TSel) (h:Sl.sz TSel.sz l<=1048576) (c:Z0) (hc:c.Fq.FFrags=fr):∃y,Z26_q c l [] []=some (keysX fr l,y):=by
 have hu:unseen fr []<=1048576:=Nat.le_trans (List.length_filter_le _ _) hl;obtain⟨r,h1,_⟩:=roots_tot hfr F0 l [] [] h (by rw [F0_eq]; omega);have e1:Z26_q c l [] []=some r:=h1 c hc;have e2:Z26_q (bare fr) l [] []=some r:=h1 _ rfl;exact⟨r.2,by rw [e1]; simp [keysX,e2]⟩
def M0:Nat:=2097152
def opX (d:TDoc) (fr:Sl Z5) (o:TOp):List Z3 :=
 flt ((((!(fnd d.FDefs.l (Z82_q o.FKind)).2)||(!decide ((fnd d.FDefs.l (Z82_q o.FKind)).1.FKind=(1:Int))))||((decide (o.FKind=(3:Int)))&&(!decide ((((seenM (keysX fr o.FSels)).length:Nat):Int)=(1:Int)))))) 30 o.FName++selsX M0 d o.FSels.l (Z82_q o.FKind) o.FName
def fragX (d:TDoc) (f:Z5):List Z3:=selsX M0 d f.FSels.l f.FOn f.FName
theorem sels_eff {d:TDoc}(hd:DefsOk d) (l:Sl TSel) (on_ at_:Bs) (h:Sl.sz TSel.sz l<=1048576) (h2:at_.length<=1048576):Eff d (fun c=>fields_checker_sels_q c l on_ at_) (selsX M0 d l.l on_ at_) :=
 (sels_tot hd F0).1 l on_ at_ M0 (by rw [F0_eq]; omega) h (by omega) (by unfold M0; omega)
theorem frags_eff {d:TDoc}(hd:DefsOk d) (l:List Z5) (hl:∀f∈l,f.sz<=1048576):Eff d (fun c=>Z18_q12 l c) (l.flatMap (fragX d)):=by
 induction l with
 | nil=>exact Eff.id
 | cons f r ih =>
  have h1:=hl f List.mem_cons_self;have h2:=f.sz_def; have h3:Bs.sz f.FName=f.FName.length+1:=rfl;refine Eff.of ((sels_eff hd f.FSels f.FOn f.FName (by omega) (by omega)).bind (ih fun y hy=>hl y (List.mem_cons_of_mem _ hy))) (by simp [fragX]) fun c hc=>?_;rw [Z18_q12]; rfl
theorem ops_eff {d:TDoc}(hd:DefsOk d){fr:Sl Z5}(hfr:∀f∈fr.l,Sl.sz TSel.sz f.FSels<=1048576) (hfl:fr.l.length<=1048576) (l:List TOp) (hl:∀f∈l,f.sz<=1048576) (c:Z0) (hc:c.Fd=d) (hq:c.Fq.FFrags=fr) (hb:c.Fout.l.length+(l.flatMap (opX d fr)).length<=4398046511104) :
  Z18_q24 d l c=some (addF c (l.flatMap (opX d fr))):=by
 induction l generalizing c with
 | nil=>rw [Z18_q24]; simp [addF_nil]
 | cons o r ih =>
  have h1:=hl o List.mem_cons_self;have h2:=o.sz_def; have h3:Bs.sz o.FName=o.FName.length+1:=rfl;simp only [List.flatMap_cons,List.length_append] at hb ⊢;have he:Eff d _ (opX d fr o):=(add_eff d ((((!(fnd d.FDefs.l (Z82_q o.FKind)).2)||(!decide ((fnd d.FDefs.l (Z82_q o.FKind)).1.FKind=(1:Int))))||((decide (o.FKind=(3:Int)))&&(!decide ((((seenM (keysX fr o.FSels)).length:Nat):Int)=(1:Int)))))) 30 o.FName).bind (sels_eff hd o.FSels (Z82_q o.FKind) o.FName (by omega) (by omega))
  obtain⟨y,hy⟩:=roots_eq hfr hfl o.FSels (by omega) c hq;have h4:=he c hc (by omega);dsimp only at h4;rw [Z18_q24];simp only [on,find_eq,hy,Option.bind_some];rw [<- Option.bind_assoc,h4,Option.bind_some,ih (fun y hy=>hl y (List.mem_cons_of_mem _ hy)) (addF c (opX d fr o)) hc hq (by simp only [addF,List.length_append]; omega),addF_add]
def checkX (d:TDoc) (q:Z8):List Z3:=q.FOps.l.flatMap (opX d q.FFrags)++q.FFrags.l.flatMap (fragX d)
theorem check_eq {d:TDoc}(hd:DefsOk d) (q:Z8) (hq:q.sz<=1048576) (hb:(checkX d q).length<=4398046511104):∃nl,Z18_q d q=some ⟨nl,checkX d q⟩:=by
 have hl:=q.lens;unfold checkX at *;simp only [List.length_append] at hb;have h1:=ops_eff hd (fr:=q.FFrags) (fun f hf=>by have:=Z8.frag_le hf; have:=f.sz_def; omega) (by omega) q.FOps.l (fun o ho=>by have:=Z8.op_le ho; omega) ⟨d,q,Sl.nil⟩ rfl rfl (by simp only [Sl.nil,List.length_nil]; omega);have h2:=frags_eff hd q.FFrags.l (fun f hf=>by have:=Z8.frag_le hf; omega) (addF ⟨d,q,Sl.nil⟩ (q.FOps.l.flatMap (opX d q.FFrags))) rfl (by simp only [addF,Sl.nil,List.nil_append]; omega)
 unfold Z18_q;rw [h1];simp only [Option.bind_some,on];rw [show Z18_q12 q.FFrags.l (addF ⟨d,q,Sl.nil⟩ (q.FOps.l.flatMap (opX d q.FFrags)))=_ from h2];exact⟨_,by simp [addF,Sl.nil]; rfl⟩
end Go.Proofs

namespace Go.Proofs
open Go Go.Ab
theorem cls_eq (x:Int):((((decide ((97:Int)<=x)&&decide (x<=(122:Int)))||(decide ((65:Int)<=x)&&decide (x<=(90:Int))))||(decide ((48:Int)<=x)&&decide (x<=(57:Int))))||decide (x=(95:Int)))=(Z48_q x||Z47_q x):=by
 unfold Z48_q Z47_q;rw [Bool.eq_iff_iff];simp only [Bool.or_eq_true,Bool.and_eq_true,decide_eq_true_eq];constructor
 ·rintro (((h|h)|h)|h)
  ·exact .inl (.inl (.inr h))
  ·exact .inl (.inl (.inl h))
  ·exact .inr h
  ·exact .inl (.inr h)
 ·rintro (((h|h)|h)|h)
  ·exact .inl (.inl (.inr h))
  ·exact .inl (.inl (.inl h))
  ·exact .inr h
  ·exact .inl (.inr h)
theorem nameAux:∀(l:List UInt8) (i:Nat),0<i->Z46_q10 l i=Z112_q12 l
 | [],_,_=>rfl
 | h::r,i,hi=>by
  have h0:decide (((i:Nat):Int)=0)=false:=decide_eq_false (by omega);rw [Z46_q10,Z112_q12,nameAux r (i+1) (by omega)];simp only [Ab.on,h0,cls_eq];cases Z48_q ((h.toNat:Nat):Int)
  ·simp only [Bool.not_false,Bool.and_self,cond_true,Bool.true_and,Bool.false_or]
  ·rfl
theorem letter_digit (x:Int) (h:Z48_q x=true):((decide ((48:Int)<=x))&&(decide (x<=(57:Int))))=false:=by
 unfold Z48_q at h;rw [Bool.and_eq_false_iff];simp only [Bool.or_eq_true,Bool.and_eq_true,decide_eq_true_eq] at h;by_cases h2:x<=57
 ·left; apply decide_eq_false; omega
 ·right; exact decide_eq_false h2
theorem name_eq (s:Bs):Z112_q s=some (Z46_q s):=by
 unfold Z112_q Z46_q;cases s with
 | nil=>rfl
 | cons h r =>
  have e0:((h::r:Bs)==[])=false:=rfl;have e1:decide ((((h::r:Bs).length:Nat):Int)<1)=false:=decide_eq_false (by simp only [List.length_cons]; omega);rw [e0,e1];simp only [Bool.false_or];cases decide ((64:Int)<(((h::r:Bs).length:Nat):Int))
  ·simp only [Bool.not_false,guardO,if_true,cond_false,Bool.true_and,Bool.false_or];rw [show ((h::r:Bs)[0]?)=some h from rfl];simp only [Option.bind_some];rw [Z46_q10,Z112_q12,nameAux r 1 (by omega)];simp only [Ab.on,cls_eq];generalize ((h.toNat:Nat):Int)=x;cases hl:Z48_q x
   ·have hd:Z47_q x=(decide ((48:Int)<=x)&&decide (x<=(57:Int))):=rfl;rw [hd];cases h4:decide ((48:Int)<=x)<;>cases h5:decide (x<=(57:Int))<;>simp [h5]
   ·have h9:=letter_digit x hl;cases h4:decide ((48:Int)<=x)<;>cases h5:decide (x<=(57:Int))<;>rw [h4,h5] at h9<;>simp [h5] at h9 ⊢<;>(cases Z112_q12 r<;>rfl)
  ·rfl
end Go.Proofs

namespace Go.Proofs
open Go Go.Ab
theorem cond_le {α:Type}{n:Nat}(c:Bool){a b:List α}(h1:a.length<=n) (h2:b.length<=n):(cond c a b).length<=n:=by cases c<;>assumption
theorem flt_le (b:Bool) (e:Int) (a:Bs):(flt b e a).length<=1:=by cases b<;>simp [flt]
theorem knownX_le (d:TDoc) (defs:Sl Z6) (all:Sl TArg) (st:Bool) (a:Bs) (l:List TArg) (i:Nat):(knownX d defs all st a l i).length<=l.length:=by
 induction l generalizing i with
 | nil=>simp [knownX]
 | cons x r ih =>
  have:=ih (i+1);rw [knownX];cases (!(fndI defs.l x.FName).2)||(Z28_q ⟨all.nl,all.l.take i⟩ x.FName).2 with
  | true=>have:=flt_le true 22 a; simp; omega
  | false=>have:=flt_le ((!fitsB d (fndI defs.l x.FName).1.FType x.FValue)||(st&&badV x.FValue)) 23 a; simp; omega
theorem missX_le (a:Bs) (x:Sl TArg) (l:List Z6):(missX a x l).length<=l.length:=by
 induction l with
 | nil=>simp [missX]
 | cons y r ih=>have:=flt_le (!(Z28_q x y.FName).2) 22 a; rw [missX]; simp; omega
theorem needX_le (a:Bs) (x:Sl TArg) (l:List Z6):(needX a x l).length<=l.length:=by
 induction l with
 | nil=>simp [needX]
 | cons y r ih=>have:=flt_le ((Z116_q y.FType&&!y.FHas)&&!(Z28_q x y.FName).2) 22 a; rw [needX]; simp; omega
theorem dirX_le (d:TDoc) (s:TSel) (t:TRef) (is:Bool) (a:Bs) (x:TDir) (i:Nat):(dirX d s t is a x i).length<=x.sz:=by
 have h:=x.sz_def; have h2:=Sl.len_lt (f:=TArg.sz) x.FArgs TArg.pos; have h3:=Bs.sz_pos x.FName;have h4:=knownX_le d (defsX ((!decide (s.FKind=2))&&!decide (s.FKind=3)) t is x) x.FArgs ((x.FName==[100,101,102,101,114])||(x.FName==[115,116,114,101,97,109])) a x.FArgs.l 0;have h5:=missX_le a x.FArgs (defsX ((!decide (s.FKind=2))&&!decide (s.FKind=3)) t is x).l;have h6:=(defsX_ok ((!decide (s.FKind=2))&&!decide (s.FKind=3)) t is x).1
 have h7:=flt_le true 29 a;unfold dirX;refine cond_le _ (by omega) ?_;simp only [List.length_append]; omega
theorem dirsX_le (d:TDoc) (s:TSel) (t:TRef) (is:Bool) (a:Bs) (l:List TDir) (i:Nat):(dirsX d s t is a l i).length<=(l.map TDir.sz).sum:=by
 induction l generalizing i with
 | nil=>simp [dirsX]
 | cons x r ih=>have:=ih (i+1); have:=dirX_le d s t is a x i; rw [dirsX]; simp; omega
theorem ownX_le {d:TDoc}(hd:DefsOk d) (s:TSel) (on_ a:Bs):(ownX d s on_ a).length<=1048579+s.FArgs.l.length+(s.FDirs.l.map TDir.sz).sum:=by
 have h1:=flt_le (Z113_q s.FAlias) 6 a;have h2:=flt_le ((!(typeX d on_ s.FName).2)&&(bif !(typeX d on_ s.FName).2 then Z76_q d on_ else false)) 20 a;have h3:=dirsX_le d s (typeX d on_ s.FName).1 (typeX d on_ s.FName).2 a s.FDirs.l 0;have h4:=knownX_le d (defX d s on_).FArgs s.FArgs false a s.FArgs.l 0;have h5:=needX_le a s.FArgs (defX d s on_).FArgs.l;have h6:=(defX_ok hd s on_).1;have h7:(leafX d s (typeX d on_ s.FName).1 a).length<=1:=flt_le _ _ _
 have h8:(bif (typeX d on_ s.FName).2 then leafX d s (typeX d on_ s.FName).1 a++(knownX d (defX d s on_).FArgs s.FArgs false a s.FArgs.l 0++needX a s.FArgs (defX d s on_).FArgs.l) else []).length<=1048577+s.FArgs.l.length:=by
  refine cond_le _ ?_ (by simp);simp only [List.length_append]; omega
 unfold ownX;simp only [List.length_append]; omega
theorem flatMap_le {α β:Type}{f:α->List β}{g:α->Nat}{l:List α}(h:∀x∈l,(f x).length<=g x*2097152):(l.flatMap f).length<=(l.map g).sum*2097152:=by
 induction l with
 | nil=>simp
 | cons x r ih =>
  have h1:=h x List.mem_cons_self; have h2:=ih fun y hy=>h y (List.mem_cons_of_mem _ hy);simp only [List.flatMap_cons,List.length_append,List.map_cons,List.sum_cons]; omega
theorem selX_le {d:TDoc}(hd:DefsOk d) (k:List TSel->Bs->Bs->List Z3) (on_ a:Bs) (s:TSel) (hk:∀on2 a2,(k s.FSels.l on2 a2).length<=(s.FSels.l.map TSel.sz).sum*2097152):(selX k d on_ a s).length<=s.sz*2097152:=by
 have h:=s.sz_def;have h1:Sl.sz TSel.sz s.FSels=1+(s.FSels.l.map TSel.sz).sum:=rfl;have h2:Sl.sz TDir.sz s.FDirs=1+(s.FDirs.l.map TDir.sz).sum:=rfl;have h3:=Sl.len_lt (f:=TArg.sz) s.FArgs TArg.pos;have h4:=dirsX_le d s ⟨[],Sl.nil⟩ false a s.FDirs.l 0;have h5:=ownX_le hd s on_ (placeX s a);have h6:=hk (bif !(s.FOn==[]) then s.FOn else on_) a;have h7:=hk (typeX d on_ s.FName).1.FName (placeX s a);unfold selX
 refine cond_le _ (by omega) (cond_le _ ?_ ?_)<;>simp only [List.length_append]<;>omega
theorem selsX_le {d:TDoc}(hd:DefsOk d) (n:Nat) (l:List TSel) (on_ a:Bs):(selsX n d l on_ a).length<=(l.map TSel.sz).sum*2097152:=by
 induction n generalizing l on_ a with
 | zero=>simp [selsX]
 | succ n ih=>rw [selsX]; exact flatMap_le fun s _=>selX_le hd _ on_ a s fun on2 a2=>ih _ _ _
theorem opX_le {d:TDoc}(hd:DefsOk d) (fr:Sl Z5) (o:TOp):(opX d fr o).length<=o.sz*2097152:=by
 have h:=o.sz_def;have h1:Sl.sz TSel.sz o.FSels=1+(o.FSels.l.map TSel.sz).sum:=rfl;have h2:=selsX_le hd M0 o.FSels.l (Z82_q o.FKind) o.FName;have h3:=flt_le ((((!(fnd d.FDefs.l (Z82_q o.FKind)).2)||(!decide ((fnd d.FDefs.l (Z82_q o.FKind)).1.FKind=(1:Int))))||((decide (o.FKind=(3:Int)))&&(!decide ((((seenM (keysX fr o.FSels)).length:Nat):Int)=(1:Int)))))) 30 o.FName;unfold opX;simp only [List.length_append]; omega
theorem fragX_le {d:TDoc}(hd:DefsOk d) (f:Z5):(fragX d f).length<=f.sz*2097152:=by
 have h:=f.sz_def;have h1:Sl.sz TSel.sz f.FSels=1+(f.FSels.l.map TSel.sz).sum:=rfl;unfold fragX;exact Nat.le_trans (selsX_le hd M0 f.FSels.l f.FOn f.FName) (by omega)
theorem checkX_le {d:TDoc}(hd:DefsOk d) (q:Z8) (hq:q.sz<=1048576):(q.FOps.l.flatMap (opX d q.FFrags)).length+(q.FFrags.l.flatMap (fragX d)).length<=2199023255552:=by
 have h:=q.sz_def;have h1:Sl.sz TOp.sz q.FOps=1+(q.FOps.l.map TOp.sz).sum:=rfl;have h2:Sl.sz Z5.sz q.FFrags=1+(q.FFrags.l.map Z5.sz).sum:=rfl;have h3:=flatMap_le (l:=q.FOps.l) (g:=TOp.sz) fun o _=>opX_le hd q.FFrags o;have h4:=flatMap_le (l:=q.FFrags.l) (g:=Z5.sz) fun o _=>fragX_le hd o;omega
theorem check_ok {d:TDoc}(hd:DefsOk d) (q:Z8) (hq:q.sz<=1048576):∃nl,Z18_q d q=some ⟨nl,checkX d q⟩ :=
 check_eq hd q hq (by have:=checkX_le hd q hq; unfold checkX; simp only [List.length_append]; omega)
end Go.Proofs

namespace Go.Proofs
open Go Go.Ab
def Tk {C D:Type}(fx:C->D) (ln:C->Nat) (o:Option C) (c:C) (k:Nat):Prop:=∃c',o=some c'/\fx c'=fx c/\ln c'<=ln c+k
section
variable {C D:Type}{fx:C->D}{ln:C->Nat}{o:Option C}{c:C}{k m n:Nat}
theorem Tk.pure (c:C) (k:Nat):Tk fx ln (some c) c k:=⟨c,rfl,rfl,Nat.le_add_right _ _⟩
theorem Tk.bind {f:C->Option C}(h:Tk fx ln o c k) (hn:k+m<=n) (hf:∀c',fx c'=fx c->ln c'<=ln c+k->Tk fx ln (f c') c' m):Tk fx ln (o.bind f) c n:=by
 obtain⟨c1,e1,f1,l1⟩:=h;obtain⟨c2,e2,f2,l2⟩:=hf c1 f1 l1;exact⟨c2,by rw [e1]; exact e2,f2.trans f1,by omega⟩
theorem Tk.map (h:Tk fx ln o c k):Tk fx ln (o.bind fun x=>some x) c k:=by
 obtain⟨c1,e1,h1⟩:=h; exact⟨c1,by rw [e1]; rfl,h1⟩
theorem Tk.mono (h:Tk fx ln o c k) (hn:k<=n):Tk fx ln o c n:=by
 obtain⟨c1,e1,f1,l1⟩:=h; exact⟨c1,e1,f1,by omega⟩
theorem Tk.cond {b:Bool}{x y:Option C}(h1:b=true->Tk fx ln x c k) (h2:b=false->Tk fx ln y c k):Tk fx ln (bif b then x else y) c k:=by
 cases b
 ·exact h2 rfl
 ·exact h1 rfl
theorem Tk.bindT {α:Type}{p:Option α}{f:α->Option C}(hp:∃x,p=some x) (hf:∀x,p=some x->Tk fx ln (f x) c k):Tk fx ln (p.bind f) c k:=by
 obtain⟨x,e⟩:=hp; rw [e]; exact hf x e
theorem Tk.guard {α:Type}{b:Bool}{p:Option α}{d:α}{f:α->Option C}(hp:b=true->∃x,p=some x) (hf:∀x,Tk fx ln (f x) c k):Tk fx ln (guardO b p d f) c k:=by
 cases b
 ·exact hf d
 ·obtain⟨x,e⟩:=hp rfl; rw [e]; exact hf x
end
def unseenL (l:List Bs) (seen:List Bs):Nat:=(l.filter fun f=>!seen.contains f).length
theorem unseenL_le {l a b:List Bs}(h:∀s∈a,s∈b):unseenL l b<=unseenL l a:=filter_le fun x _ hp=>by
 simp at hp ⊢; exact fun h2=>hp (h _ h2)
theorem unseenL_lt {l a b:List Bs}(h:∀s∈a,s∈b){f:Bs}(hf:f∈l) (h1:f∉a) (h2:f∈b):unseenL l b<unseenL l a :=
 filter_lt (fun x _ hp=>by simp at hp ⊢; exact fun h2=>hp (h _ h2)) hf (by simpa using h2) (by simpa using h1)
theorem findS (s:Bs):∀l:List TDef,Z78_q7 s l=Sum.inl ()\/∃t∈l,Z78_q7 s l=Sum.inr (t,true)/\t.FName=s
 | []=>.inl rfl
 | a::r=>by
  rw [Z78_q7];simp only [Ab.on];cases h:(a.FName==s)
  ·rw [cond_false];rcases findS s r with h|⟨t,ht,e⟩
   ·exact .inl h
   ·exact .inr ⟨t,.tail _ ht,e⟩
  ·exact .inr ⟨a,.head _,rfl,eq_of_beq h⟩
theorem findS_mem {d:TDoc}{s:Bs}(h:(Z78_q d s).2=true):(Z78_q d s).1∈d.FDefs.l:=by
 unfold Z78_q at h ⊢;simp only [Ab.on] at h ⊢;rcases findS s d.FDefs.l with e|⟨t,ht,e,-⟩
 ·rw [e] at h; cases h
 ·rw [e]; exact ht
theorem loops_told (a1:TDef) (c:Z2):∀(n:Nat) (a0:TDef) (s:List Bs),unseenL (c.Fd.FDefs.l.map TDef.FName) s<n->∃b s',Z89_qn n a0 a1 c s=some (b,s')/\∀x∈s,x∈s'
 | 0,_,_,h=>by omega
 | n+1,a0,s,hn=>by
  have loop:∀(l:List Z6) (s:List Bs),unseenL (c.Fd.FDefs.l.map TDef.FName) s<=n->∃r,Z89_q7 a1 c (Z89_qn n) l s=some r/\match r with|Sum.inl s'=>∀x∈s,x∈s'|Sum.inr e=>∀x∈s,x∈e.2:=by
   intro l;induction l with
   | nil=>intro s _; exact⟨_,rfl,fun _ h=>h⟩
   | cons h r ih =>
    intro s hs;rw [Z89_q7];simp only [Ab.on];have hg:∃x:Int,guardO (!(!decide (((h.FType.FWraps.l.length:Nat):Int)=(1:Int)))) (h.FType.FWraps.l[0]?) (0:Int) (fun x=>some x)=some x:=by
     by_cases h1:h.FType.FWraps.l.length=1
     ·rw [show decide (((h.FType.FWraps.l.length:Nat):Int)=(1:Int))=true from decide_eq_true (by omega)];simp only [guardO,Bool.not_true,Bool.not_false,if_true];rw [List.getElem?_eq_getElem (show 0<h.FType.FWraps.l.length by omega)];exact⟨_,rfl⟩
     ·rw [show decide (((h.FType.FWraps.l.length:Nat):Int)=(1:Int))=false from decide_eq_false (by omega)];exact⟨_,rfl⟩
    have hgo:∀{K:Int->Option (List Bs ⊕ (Bool×List Bs))},(∀x,∃q,K x=some q/\match q with|Sum.inl s'=>∀x∈s,x∈s'|Sum.inr e=>∀x∈s,x∈e.2)->∃q,guardO (!(!decide (((h.FType.FWraps.l.length:Nat):Int)=(1:Int)))) (h.FType.FWraps.l[0]?) (0:Int) K=some q/\match q with|Sum.inl s'=>∀x∈s,x∈s'|Sum.inr e=>∀x∈s,x∈e.2:=by
     intro K hK;obtain⟨x,hx⟩:=hg;generalize h.FType.FWraps.l[0]?=p at hx ⊢;generalize (!(!decide (((h.FType.FWraps.l.length:Nat):Int)=(1:Int))))=b at hx ⊢;cases b
     ·exact hK 0
     ·cases p with
      | none=>cases hx
      | some y=>exact hK y
    refine hgo fun x20=>?_;cases (!decide (((h.FType.FWraps.l.length:Nat):Int)=(1:Int))||!decide (x20=(1:Int)))
    ·rw [cond_false];cases (h.FType.FName==a1.FName)
     ·rw [cond_false];cases hc:((Z78_q c.Fd h.FType.FName).2&&decide ((Z78_q c.Fd h.FType.FName).1.FKind=(5:Int)))&&!(s.contains (Z78_q c.Fd h.FType.FName).1.FName)
      ·rw [cond_false]; exact ih s hs
      ·rw [cond_true];simp only [Bool.and_eq_true,Bool.not_eq_true'] at hc;obtain⟨⟨hf,-⟩,hns⟩:=hc;have hm:=findS_mem hf;generalize (Z78_q c.Fd h.FType.FName).1=t at hm hns ⊢;have hsub:∀x∈s,x∈insS s t.FName:=fun x hx=>mem_insS hx;have hlt:=unseenL_lt (l:=c.Fd.FDefs.l.map TDef.FName) hsub (List.mem_map_of_mem hm) (by simpa using hns) (self_insS s t.FName);obtain⟨b,s',e,hs'⟩:=loops_told a1 c n t (insS s t.FName) (by omega)
       rw [e,Option.bind_some];cases b
       ·rw [cond_false];have hle:=unseenL_le (l:=c.Fd.FDefs.l.map TDef.FName) (a:=s) (b:=s') fun x hx=>hs' x (hsub x hx);obtain⟨q,hq,hq2⟩:=ih s' (by omega);refine⟨q,hq, ?_⟩;cases q with
        | inl s2=>exact fun x hx=>hq2 x (hs' x (hsub x hx))
        | inr e2=>exact fun x hx=>hq2 x (hs' x (hsub x hx))
       ·exact⟨_,rfl,fun x hx=>hs' x (hsub x hx)⟩
     ·exact⟨_,rfl,fun _ h=>h⟩
    ·rw [cond_true]; exact ih s hs
  rw [Z89_qn];obtain⟨q,e,hq⟩:=loop a0.FInputs.l s (by omega);rw [e,Option.bind_some];cases q with
  | inl s'=>exact⟨false,s',rfl,hq⟩
  | inr e2=>exact⟨e2.1,e2.2,rfl,hq⟩
theorem loops_top (c:Z2) (a1:TDef) (h:c.Fd.FDefs.l.length<=1048576):∃b,Z88_q c a1=some b:=by
 have hu:unseenL (c.Fd.FDefs.l.map TDef.FName) []<=c.Fd.FDefs.l.length:=by
  have:=List.length_filter_le (fun f=>!([]:List Bs).contains f) (c.Fd.FDefs.l.map TDef.FName)
  simpa [unseenL] using this
 obtain⟨b,s',e,-⟩:=loops_told a1 c F0 a1 [] (by rw [F0_eq]; omega);unfold Z88_q Z89_q;rw [e];exact⟨b,rfl⟩
abbrev SK (o:Option Z2) (c:Z2) (k:Nat):Prop:=Tk Z2.Fd (fun c=>c.Ffaults.l.length) o c k
theorem SKg {o:Option Z2}{c:Z2}{k:Nat}(h:SK o c k):∃c',o=some c'/\c'.Fd=c.Fd/\c'.Ffaults.l.length<=c.Ffaults.l.length+k:=h
theorem sadd {c:Z2}(h:c.Ffaults.l.length<=1000000000) (b:Bool) (e:Int) (s:Bs):SK (Z84_q c b e s) c 1:=by
 unfold Z84_q;refine Tk.cond (fun _=>?_) fun _=>Tk.pure c 1;rw [appC_ok (by decide) (by simp; omega),Option.bind_some];exact⟨_,rfl,rfl,by simp⟩
theorem sname {c:Z2}(h:c.Ffaults.l.length<=900000000) (n a:Bs) (m:List Bs):∃c',Z91_q c n a m=some (c',insS m n)/\c'.Fd=c.Fd/\c'.Ffaults.l.length<=c.Ffaults.l.length+2:=by
 unfold Z91_q;rw [name_eq,Option.bind_some];simp only [Ab.on];obtain⟨c1,e1,f1,l1⟩:=SKg (sadd (c:=c) (by omega) ((!Z46_q n)||bif !(!Z46_q n) then Z113_q n else false) 6 a);rw [e1,Option.bind_some];obtain⟨c2,e2,f2,l2⟩:=SKg (sadd (c:=c1) (by omega) (m.contains n) 7 a);rw [e2];exact⟨c2,rfl,f2.trans f1,by omega⟩
theorem styp {c:Z2}(h:c.Ffaults.l.length<=900000000) (n a:Bs) (k:Int):SK (Z92_q c n a k) c 1:=by
 unfold Z92_q;simp only [Ab.on];exact Tk.cond (fun _=>(sadd (by omega) _ _ _).map) fun _=>Tk.cond (fun _=>(sadd (by omega) _ _ _).map) fun _=>(sadd (by omega) _ _ _).map
theorem sinputs (a2 a3:Bs) (h2:a2.length<=4000000) (h3:a3.length<=4000000):∀(l:List Z6) (c:Z2) (m:List Bs),(∀x∈l,x.sz<=1048576)->c.Ffaults.l.length+3*l.length<=900000000->SK (Z87_q5 a2 a3 l c m) c (3*l.length)
 | [],c,_,_,_=>Tk.pure c _
 | x::r,c,m,hx,hb=>by
  have hs:=x.sz_def;have hz:=hx x (.head _);have hn:Bs.sz x.FName=x.FName.length+1:=rfl;simp only [List.length_cons] at hb ⊢;rw [Z87_q5];simp only [Ab.on];rw [catC_ok (by omega),Option.bind_some,catC_ok (by simp; omega),Option.bind_some];obtain⟨c1,e1,f1,l1⟩:=sname (c:=c) (by omega) x.FName ((a2++x.FName)++a3) m;rw [e1,Option.bind_some];obtain⟨c2,e2,f2,l2⟩:=SKg (styp (c:=c1) (by omega) x.FType.FName ((a2++x.FName)++a3) 1)
  rw [e2,Option.bind_some];obtain⟨c3,e3,f3,l3⟩:=SKg (sinputs a2 a3 h2 h3 r c2 (insS m x.FName) (fun y hy=>hx y (.tail _ hy)) (by omega));exact⟨c3,e3,f3.trans (f2.trans f1),by show c3.Ffaults.l.length<=c.Ffaults.l.length+_; omega⟩
end Go.Proofs

namespace Go.Proofs
open Go Go.Ab
theorem sinputs_top (c:Z2) (l:Sl Z6) (a2 a3:Bs) (h2:a2.length<=4000000) (h3:a3.length<=4000000) (hx:∀x∈l.l,x.sz<=1048576) (hb:c.Ffaults.l.length+3*l.l.length<=900000000):SK (Z87_q c l a2 a3) c (3*l.l.length):=by
 unfold Z87_q;exact(sinputs a2 a3 h2 h3 l.l c [] hx hb).map
theorem sfields (a1:TDef) (h1:a1.FName.length<=1048576):∀(l:List Z4) (c:Z2) (m:List Bs),(∀x∈l,x.sz<=1048576)->c.Ffaults.l.length+3*(l.map Z4.sz).sum<=900000000->SK (Z86_q6 a1 l c m) c (3*(l.map Z4.sz).sum)
 | [],c,_,_,_=>Tk.pure c _
 | x::r,c,m,hx,hb=>by
  have hs:=x.sz_def;have hz:=hx x (.head _);have hn:Bs.sz x.FName=x.FName.length+1:=rfl;have hl:=Sl.len_lt (f:=Z6.sz) x.FArgs Z6.pos;simp only [List.map_cons,List.sum_cons] at hb ⊢;rw [Z86_q6];simp only [Ab.on];rw [catC_ok (by simp; omega),Option.bind_some,catC_ok (by simp; omega),Option.bind_some];generalize hat:a1.FName++([46]:Bs)++x.FName=at_;have hal:at_.length<=2097154:=by rw [<- hat]; simp; omega
  obtain⟨c1,e1,f1,l1⟩:=sname (c:=c) (by omega) x.FName at_ m;rw [e1,Option.bind_some];obtain⟨c2,e2,f2,l2⟩:=SKg (styp (c:=c1) (by omega) x.FType.FName at_ 0);rw [e2,Option.bind_some,catC_ok (by simp; omega),Option.bind_some];obtain⟨c3,e3,f3,l3⟩:=SKg (sinputs_top c2 x.FArgs (at_++([40]:Bs)) ([41]:Bs) (by simp; omega) (by simp) (fun y hy=>by have:=Sl.mem_le (f:=Z6.sz) hy; omega) (by omega));rw [e3,Option.bind_some]
  obtain⟨c4,e4,f4,l4⟩:=SKg (sfields a1 h1 r c3 (insS m x.FName) (fun y hy=>hx y (.tail _ hy)) (by omega));exact⟨c4,e4,f4.trans (f3.trans (f2.trans f1)),by show c4.Ffaults.l.length<=c.Ffaults.l.length+_; omega⟩
theorem smembers (a1:TDef) (h1:a1.FName.length<=1048576):∀(l:List Z7) (c:Z2) (m:List Bs),(∀x∈l,x.sz<=1048576)->c.Ffaults.l.length+2*l.length<=900000000->SK (Z90_q6 a1 l c m) c (2*l.length)
 | [],c,_,_,_=>Tk.pure c _
 | x::r,c,m,hx,hb=>by
  have hs:=x.sz_def;have hz:=hx x (.head _);have hn:Bs.sz x.FName=x.FName.length+1:=rfl;simp only [List.length_cons] at hb ⊢;rw [Z90_q6];simp only [Ab.on];rw [catC_ok (by simp; omega),Option.bind_some,catC_ok (by simp; omega),Option.bind_some];refine Tk.guard (fun _=>⟨_,name_eq _⟩) fun x21=>?_;obtain⟨c1,e1,f1,l1⟩:=SKg (sadd (c:=c) (by omega) ((((((x.FName==([116,114,117,101]:Bs)))||((x.FName==([102,97,108,115,101]:Bs))))||((x.FName==([110,117,108,108]:Bs))))||(!x21))||bif !(((((x.FName==([116,114,117,101]:Bs)))||((x.FName==([102,97,108,115,101]:Bs))))||((x.FName==([110,117,108,108]:Bs))))||(!x21)) then Z113_q x.FName else false) 6 (a1.FName++([46]:Bs)++x.FName))
  rw [e1,Option.bind_some];obtain⟨c2,e2,f2,l2⟩:=SKg (sadd (c:=c1) (by omega) (m.contains x.FName) 7 (a1.FName++([46]:Bs)++x.FName));rw [e2,Option.bind_some];obtain⟨c3,e3,f3,l3⟩:=SKg (smembers a1 h1 r c2 (insS m x.FName) (fun y hy=>hx y (.tail _ hy)) (by omega));exact⟨c3,e3,f3.trans (f2.trans f1),by show c3.Ffaults.l.length<=c.Ffaults.l.length+_; omega⟩
end Go.Proofs

namespace Go.Proofs
open Go Go.Ab
def TkP (o:Option (Z2×List Bs)) (c:Z2) (k:Nat):Prop:=∃c' m',o=some (c',m')/\c'.Fd=c.Fd/\c'.Ffaults.l.length<=c.Ffaults.l.length+k
theorem TkP.bind {o:Option Z2}{f:Z2->Option (Z2×List Bs)}{c:Z2}{k m n:Nat}(h:SK o c k) (hn:k+m<=n) (hf:∀c',c'.Fd=c.Fd->c'.Ffaults.l.length<=c.Ffaults.l.length+k->TkP (f c') c' m):TkP (o.bind f) c n:=by
 obtain⟨c1,e1,f1,l1⟩:=SKg h;obtain⟨c2,m2,e2,f2,l2⟩:=hf c1 f1 l1;exact⟨c2,m2,by rw [e1]; exact e2,f2.trans f1,by omega⟩
theorem TkP.guard {α:Type}{b:Bool}{p:Option α}{d:α}{f:α->Option (Z2×List Bs)}{c:Z2}{k:Nat}(hp:b=true->∃x,p=some x) (hf:∀x,TkP (f x) c k):TkP (guardO b p d f) c k:=by
 cases b
 ·exact hf d
 ·obtain⟨x,e⟩:=hp rfl; rw [e]; exact hf x
theorem TkP.cond {b:Bool}{x y:Option (Z2×List Bs)}{c:Z2}{k:Nat}(h1:TkP x c k) (h2:TkP y c k):TkP (bif b then x else y) c k:=by
 cases b
 ·exact h2
 ·exact h1
theorem TkP.pair {o:Option Z2}{c:Z2}{k n:Nat}(h:SK o c k) (hn:k<=n) (M:List Bs):TkP (o.bind fun x=>some (x,M)) c n:=by
 obtain⟨c1,e1,f1,l1⟩:=SKg h;exact⟨c1,M,by rw [e1]; rfl,f1,by omega⟩
theorem drop_nextS {α:Type}{l r:List α}{i:Nat}{x:α}(h:l.drop i=x::r):l.drop (i+1)=r/\l[i]?=some x:=by
 refine⟨?_,by have:=congrArg (fun t=>t[0]?) h; simpa using this⟩;have:=congrArg (List.drop 1) h
 simpa [List.drop_drop] using this
theorem sdef {d:TDoc}{t:TDef}{i:Nat}(ht:d.FDefs.l[i]?=some t) (hz:t.sz<=1048576) (hdl:d.FDefs.l.length<=1048576) (c:Z2) (hd:c.Fd=d) (m:List Bs) (hb:c.Ffaults.l.length+(5+3*t.sz)<=900000000):TkP (Z85_q c (i:Int) m) c (5+3*t.sz):=by
 have hs:=t.sz_def;have hn:Bs.sz t.FName=t.FName.length+1:=rfl;have hf:(t.FFields.l.map Z4.sz).sum+1=Sl.sz Z4.sz t.FFields:=by unfold Sl.sz; omega
 have hm:=Sl.len_lt (f:=Z7.sz) t.FMembers Z7.pos;have hi:=Sl.len_lt (f:=Z6.sz) t.FInputs Z6.pos;unfold Z85_q;have hidx:idxC c.Fd.FDefs.l (i:Int)=some t:=by rw [hd]; unfold idxC; rw [if_pos (by simp),Int.toNat_natCast,ht]
 rw [hidx,Option.bind_some,name_eq,Option.bind_some];simp only [Ab.on];refine TkP.bind (k:=1) (m:=4+3*t.sz) (sadd (by omega) _ _ _) (by omega) fun c1 f1 l1=>?_;refine TkP.bind (k:=1) (m:=3+3*t.sz) (sadd (by omega) _ _ _) (by omega) fun c2 f2 l2=>?_;refine TkP.bind (k:=1) (m:=2+3*t.sz) (sadd (by omega) _ _ _) (by omega) fun c3 f3 l3=>?_;refine TkP.bind (k:=1) (m:=1+3*t.sz) (sadd (by omega) _ _ _) (by omega) fun c4 f4 l4=>?_
 refine TkP.guard (fun _=>loops_top c4 t (by rw [f4,f3,f2,f1,hd]; exact hdl)) fun x20=>?_;refine TkP.bind (k:=1) (m:=3*t.sz) (sadd (by omega) _ _ _) (by omega) fun c5 f5 l5=>?_;refine TkP.cond ?_ (TkP.cond ?_ (TkP.cond ?_ ⟨c5,_,rfl,rfl,by omega⟩))
 ·refine TkP.pair (k:=3*(t.FFields.l.map Z4.sz).sum) ?_ (by omega) _;unfold Z86_q;exact(sfields t (by omega) t.FFields.l c5 [] (fun y hy=>by have:=Sl.mem_le (f:=Z4.sz) hy; omega) (by omega)).map
 ·refine TkP.pair (k:=2*t.FMembers.l.length) ?_ (by omega) _;unfold Z90_q;exact(smembers t (by omega) t.FMembers.l c5 [] (fun y hy=>by have:=Sl.mem_le (f:=Z7.sz) hy; omega) (by omega)).map
 ·rw [catC_ok (by simp; omega),Option.bind_some];exact TkP.pair (sinputs_top c5 t.FInputs _ _ (by simp; omega) (by simp) (fun y hy=>by have:=Sl.mem_le (f:=Z6.sz) hy; omega) (by omega)) (by omega) _
theorem scheck_loop {d:TDoc}(hz:∀t∈d.FDefs.l,t.sz<=1048576) (hdl:d.FDefs.l.length<=1048576):∀(l:List TDef) (i:Nat) (c:Z2) (m:List Bs),d.FDefs.l.drop i=l->c.Fd=d->c.Ffaults.l.length+(5*l.length+3*(l.map TDef.sz).sum)<=900000000->SK (Z75_q20 l i c m) c (5*l.length+3*(l.map TDef.sz).sum)
 | [],i,c,m,_,_,_=>Tk.pure c _
 | t::r,i,c,m,hl,hd,hb=>by
  obtain⟨t1,t2⟩:=drop_nextS hl;simp only [List.length_cons,List.map_cons,List.sum_cons] at hb ⊢;rw [Z75_q20];obtain⟨c1,m1,e1,f1,l1⟩:=sdef t2 (hz t (List.mem_of_getElem? t2)) hdl c hd m (by omega);rw [e1,Option.bind_some];obtain⟨c2,e2,f2,l2⟩:=SKg (scheck_loop hz hdl r (i+1) c1 m1 t1 (f1.trans hd) (by omega));exact⟨c2,e2,f2.trans f1,by show c2.Ffaults.l.length<=c.Ffaults.l.length+_; omega⟩
theorem schema_check_tot {d:TDoc}(hd:d.sz<=1048576) (b:Bool):∃l,Z75_q d b=some l:=by
 have h1:=d.sz_def;have h2:Sl.sz TDef.sz d.FDefs=1+(d.FDefs.l.map TDef.sz).sum:=rfl;have h3:=Sl.len_lt (f:=TDef.sz) d.FDefs TDef.pos;obtain⟨c,e,f,l⟩:=SKg (scheck_loop (d:=d) (fun t ht=>by have:=Sl.mem_le (f:=TDef.sz) ht; omega) (by omega) d.FDefs.l 0 (Z2.mk d (Sl.nil:Sl Z3)) [] rfl rfl (by show 0+_<=_; omega));have l:c.Ffaults.l.length<=0+(5*d.FDefs.l.length+3*(d.FDefs.l.map TDef.sz).sum):=l;unfold Z75_q
 rw [e,Option.bind_some];simp only [Ab.on];cases (b&&!(Z78_q d ([81,117,101,114,121]:Bs)).2)
 ·exact⟨_,rfl⟩
 ·obtain⟨c2,e2,_⟩:=SKg (sadd (c:=c) (by omega) true 30 ([81,117,101,114,121]:Bs));rw [cond_true,e2];exact⟨_,rfl⟩
end Go.Proofs

namespace Go.Proofs
open Go Go.Ab
theorem filtO_told {f:Bs->Option Bool}:∀{l:List Bs},(∀s∈l,∃b,f s=some b)->∃r,filtO f l=some r
 | [],_=>⟨_,rfl⟩
 | s::l,h=>by
  obtain⟨b,e⟩:=h s (.head _);obtain⟨r,e2⟩:=filtO_told (l:=l) fun x hx=>h x (.tail _ hx);exact⟨_,by rw [filtO,e,Option.bind_some,e2]; rfl⟩
theorem poss_keep (d:TDoc) (a:Bs) (x:TDef×Bool) (s:Bs):∃b,Z13_k36 d a x s=some b:=by
 unfold Z13_k36;rw [Z78_eq,Option.bind_some];generalize (!((!(Z78_q d s).2)||(!decide ((Z78_q d s).1.FKind=(1:Int))))&&(decide (x.1.FKind=(2:Int))))=g;have fin:∀b:Bool,∃r,(bif (((!(Z78_q d s).2)||(!decide ((Z78_q d s).1.FKind=(1:Int))))||((decide (x.1.FKind=(2:Int)))&&(!b))) then(some false) else(some true))=some r:=fun b=>by
  cases (((!(Z78_q d s).2)||(!decide ((Z78_q d s).1.FKind=(1:Int))))||((decide (x.1.FKind=(2:Int)))&&(!b)))
  ·exact⟨_,rfl⟩
  ·exact⟨_,rfl⟩
 cases g
 ·exact fin false
 ·simp only [guardO,if_true];rw [Z14_eq,Option.bind_some];exact fin _
theorem poss_out (d:TDoc) (h:d.FDefs.l.length<=1048576):∀(n:Nat) (o:Sl Bs) (s:Nat) (l:List Bs),s<=d.FDefs.l.length->d.FDefs.l.length<s+n->o.l.length+(d.FDefs.l.length-s)<=2097152->∃r,Z13_l17 d n o s l=some r/\r.l.length<=2097152
 | 0,_,_,_,h1,h2,_=>by omega
 | n+1,o,s,l,h1,h2,h3=>by
  rw [Z13_l17];by_cases hs:s<d.FDefs.l.length
  ·rw [show decide (((s:Nat):Int)<((d.FDefs.l.length:Nat):Int))=true from decide_eq_true (by omega),cond_true,List.getElem?_eq_getElem hs,Option.bind_some];unfold Z13_j24;cases l.contains d.FDefs.l[s].FName
   ·rw [cond_false]; exact poss_out d h n o (s+1) l (by omega) (by omega) (by omega)
   ·rw [cond_true,appC_ok (by decide) (by simp; omega),Option.bind_some];exact poss_out d h n _ (s+1) _ (by omega) (by omega) (by simp; omega)
  ·rw [show decide (((s:Nat):Int)<((d.FDefs.l.length:Nat):Int))=false from decide_eq_false (by omega),cond_false];exact⟨o,rfl,by omega⟩
theorem poss_j6 (d:TDoc) (h:d.FDefs.l.length<=1048576) (a:Bs) (x:TDef×Bool) (l:List Bs):∃r,Z13_j6 d a x l=some r/\r.l.length<=2097152:=by
 unfold Z13_j6;obtain⟨r,e⟩:=filtO_told (l:=l) fun s _=>poss_keep d a x s;rw [e];unfold Z13_j8;exact poss_out d h _ _ 0 _ (Nat.zero_le _) (by omega) (by simp only [Sl.nil,List.length_nil]; omega)
theorem poss_faces (d:TDoc) (h:d.FDefs.l.length<=1048576) (a:Bs) (x:TDef×Bool):∀(n s:Nat) (l:List Bs),s<=d.FDefs.l.length->d.FDefs.l.length<s+n->∃r,Z13_l50 d a x n s l=some r/\r.l.length<=2097152
 | 0,_,_,h1,h2=>by omega
 | n+1,s,l,h1,h2=>by
  rw [Z13_l50];by_cases hs:s<d.FDefs.l.length
  ·rw [show decide (((s:Nat):Int)<((d.FDefs.l.length:Nat):Int))=true from decide_eq_true (by omega),cond_true,List.getElem?_eq_getElem hs,Option.bind_some,Z14_eq,Option.bind_some];unfold Z13_j56;cases Z14_q d.FDefs.l[s] a
   ·exact poss_faces d h a x n (s+1) _ (by omega) (by omega)
   ·exact poss_faces d h a x n (s+1) _ (by omega) (by omega)
  ·rw [show decide (((s:Nat):Int)<((d.FDefs.l.length:Nat):Int))=false from decide_eq_false (by omega),cond_false];exact poss_j6 d h a x l
theorem poss_union (d:TDoc) (h:d.FDefs.l.length<=1048576) (a:Bs) (x:TDef×Bool):∀(n s:Nat) (l:List Bs),s<=x.1.FMembers.l.length->x.1.FMembers.l.length<s+n->∃r,Z13_l67 d a x n s l=some r/\r.l.length<=2097152
 | 0,_,_,h1,h2=>by omega
 | n+1,s,l,h1,h2=>by
  rw [Z13_l67];by_cases hs:s<x.1.FMembers.l.length
  ·rw [show decide (((s:Nat):Int)<((x.1.FMembers.l.length:Nat):Int))=true from decide_eq_true (by omega),cond_true,List.getElem?_eq_getElem hs,Option.bind_some];exact poss_union d h a x n (s+1) _ (by omega) (by omega)
  ·rw [show decide (((s:Nat):Int)<((x.1.FMembers.l.length:Nat):Int))=false from decide_eq_false (by omega),cond_false];exact poss_j6 d h a x l
theorem poss_told {d:TDoc}(h:d.FDefs.l.length<=1048576) (a:Bs):∃r,Z13_q d a=some r/\r.l.length<=2097152:=by
 unfold Z13_q Z13;rw [Z78_eq,Option.bind_some];cases decide ((Z78_q d a).1.FKind=(1:Int))
 ·rw [cond_false];cases decide ((Z78_q d a).1.FKind=(2:Int))
  ·rw [cond_false];cases decide ((Z78_q d a).1.FKind=(3:Int))
   ·exact poss_j6 d h a _ _
   ·exact poss_union d h a _ _ 0 _ (Nat.zero_le _) (by omega)
  ·exact poss_faces d h a _ _ 0 _ (Nat.zero_le _) (by omega)
 ·exact poss_j6 d h a _ _
end Go.Proofs

namespace Go.Proofs
open Go Go.Ab
def Ps {A C D:Type}(fx:C->D) (ln:C->Nat) (pr:A->C) (o:Option A) (c:C) (P:Prop):Prop:=∀a,o=some a->fx (pr a)=fx c/\ln c<=ln (pr a)/\(ln (pr a)=ln c->P)
section
variable {A B C D:Type}{fx:C->D}{ln:C->Nat}{pr:A->C}{pb:B->C}{o:Option A}{c:C}{P Q R:Prop}
theorem Ps.pure {a:A}(h:pr a=c) (hp:P):Ps fx ln pr (some a) c P:=fun x e=>by cases e; rw [h]; exact⟨rfl,Nat.le_refl _,fun _=>hp⟩
theorem Ps.bind {f:A->Option B}(h:Ps fx ln pr o c P) (hr:P->Q->R) (hf:∀a,o=some a->fx (pr a)=fx c->Ps fx ln pb (f a) (pr a) Q):Ps fx ln pb (o.bind f) c R:=fun b e=>by
 cases ho:o with
 | none=>rw [ho] at e; cases e
 | some a =>
  rw [ho] at e;obtain⟨h1,h2,h3⟩:=h a ho;obtain⟨g1,g2,g3⟩:=hf a ho h1 b e;exact⟨g1.trans h1,Nat.le_trans h2 g2,fun x=>hr (h3 (by omega)) (g3 (by omega))⟩
theorem Ps.any {X:Type}{p:Option X}{f:X->Option A}(hf:∀x,p=some x->Ps fx ln pr (f x) c P):Ps fx ln pr (p.bind f) c P:=fun a e=>by
 cases hp:p with
 | none=>rw [hp] at e; cases e
 | some x=>rw [hp] at e; exact hf x hp a e
theorem Ps.guard {X:Type}{b:Bool}{p:Option X}{d:X}{f:X->Option A}(hf:∀x,Ps fx ln pr (f x) c P):Ps fx ln pr (guardO b p d f) c P:=by
 cases b
 ·exact hf d
 ·exact Ps.any fun x _=>hf x
theorem Ps.cond {b:Bool}{x y:Option A}(h1:b=true->Ps fx ln pr x c P) (h2:b=false->Ps fx ln pr y c P):Ps fx ln pr (bif b then x else y) c P:=by
 cases b
 ·exact h2 rfl
 ·exact h1 rfl
end
theorem len_appC {α:Type}{z:Nat}{s r x:Sl α}(h:appC z s r=some x):x.l.length=s.l.length+r.l.length:=by rw [(appC_some h).1]; simp
abbrev SP (o:Option Z2) (c:Z2) (P:Prop):Prop:=Ps Z2.Fd (fun c=>c.Ffaults.l.length) id o c P
abbrev SPp (o:Option (Z2×List Bs)) (c:Z2) (P:Prop):Prop:=Ps Z2.Fd (fun c=>c.Ffaults.l.length) Prod.fst o c P
theorem paddS (c:Z2) (b:Bool) (e:Int) (s:Bs):SP (Z84_q c b e s) c (b=false):=by
 unfold Z84_q;cases b
 ·exact Ps.pure rfl rfl
 ·rw [cond_true];intro a ha;cases h:appC 24 c.Ffaults ⟨false,[Z3.mk e s]⟩ with
  | none=>rw [h] at ha; cases ha
  | some v =>
   have hv:=len_appC h;rw [h] at ha; cases ha;simp only [List.length_singleton] at hv;exact⟨rfl,by show c.Ffaults.l.length<=v.l.length; omega,fun e=>absurd (show v.l.length=c.Ffaults.l.length from e) (by omega)⟩
theorem pname (c:Z2) (n a:Bs) (m:List Bs):SPp (Z91_q c n a m) c True:=by
 unfold Z91_q;refine Ps.any fun x _=>?_;simp only [Ab.on];refine Ps.bind (paddS _ _ _ _) (Q:=True) (fun _ _=>trivial) fun c1 _ _=>?_;refine Ps.bind (paddS _ _ _ _) (Q:=True) (fun _ _=>trivial) fun c2 _ _=>?_;exact Ps.pure rfl trivial
def OutOk (d:TDoc) (n:Bs):Prop:=Z83_q n=true\/((Z78_q d n).2=true/\Z93_q d n≠5)
def InOk (d:TDoc) (n:Bs):Prop:=Z80_q d n=true
theorem ptyp (c:Z2) (n a:Bs) (k:Int):SP (Z92_q c n a k) c ((k=0->OutOk c.Fd n)/\(k≠0->InOk c.Fd n)):=by
 unfold Z92_q;simp only [Ab.on];refine Ps.cond (fun _=>?_) fun h1=>Ps.cond (fun h2=>?_) fun h2=>?_
 ·exact Ps.bind (paddS _ _ _ _) (Q:=True) (fun h _=>by cases h) fun c1 _ _=>Ps.pure rfl trivial
 ·have hk:=of_decide_eq_true h2;refine Ps.bind (paddS _ _ _ _) (Q:=True) (fun h _=>⟨fun _=>?_,fun h3=>absurd hk h3⟩) fun c1 _ _=>Ps.pure rfl trivial;unfold OutOk
  revert h h1
  cases Z83_q n
  ·cases (Z78_q c.Fd n).2
   ·intro h1 _; simp at h1
   ·intro _ h; right; simpa using h
  ·exact fun _ _=>.inl rfl
 ·have hk:=of_decide_eq_false h2;refine Ps.bind (paddS _ _ _ _) (Q:=True) (fun h _=>⟨fun h3=>absurd h3 hk,fun _=>?_⟩) fun c1 _ _=>Ps.pure rfl trivial;unfold InOk; simpa using h
theorem pinputs (a2 a3:Bs):∀(l:List Z6) (c:Z2) (m:List Bs),SP (Z87_q5 a2 a3 l c m) c (∀x∈l,InOk c.Fd x.FType.FName)
 | [],c,m=>Ps.pure rfl fun _ h=>by cases h
 | x::r,c,m=>by
  rw [Z87_q5];simp only [Ab.on];refine Ps.any fun y _=>Ps.any fun z _=>?_;refine Ps.bind (pname _ _ _ _) (Q:=∀y∈x::r,InOk c.Fd y.FType.FName) (fun _ h=>h) fun c1 _ f1=>?_;refine Ps.bind (ptyp _ _ _ _) (Q:=∀y∈r,InOk c.Fd y.FType.FName) (fun h h2 y hy=>?_) fun c2 _ f2=>?_
  ·rcases List.mem_cons.1 hy with rfl|hy
   ·have:=h.2 (by decide); rw [f1] at this; exact this
   ·exact h2 y hy
  ·have:=pinputs a2 a3 r c2 c1.2;rw [show c2.Fd=c.Fd from f2.trans f1] at this;exact this
theorem pfields (a1:TDef):∀(l:List Z4) (c:Z2) (m:List Bs),SP (Z86_q6 a1 l c m) c (∀x∈l,OutOk c.Fd x.FType.FName)
 | [],c,m=>Ps.pure rfl fun _ h=>by cases h
 | x::r,c,m=>by
  rw [Z86_q6];simp only [Ab.on];refine Ps.any fun y _=>Ps.any fun z _=>?_;refine Ps.bind (pname _ _ _ _) (Q:=∀y∈x::r,OutOk c.Fd y.FType.FName) (fun _ h=>h) fun c1 _ f1=>?_;refine Ps.bind (ptyp _ _ _ _) (Q:=∀y∈r,OutOk c.Fd y.FType.FName) (fun h h2 y hy=>?_) fun c2 _ f2=>?_
  ·rcases List.mem_cons.1 hy with rfl|hy
   ·have:=h.1 rfl; rw [f1] at this; exact this
   ·exact h2 y hy
  ·refine Ps.any fun w _=>?_;unfold Z87_q;refine Ps.bind (Ps.bind (pinputs _ _ _ _ _) (fun _ h=>h) fun c4 _ _=>Ps.pure rfl trivial) (Q:=∀y∈r,OutOk c.Fd y.FType.FName) (fun _ h=>h) fun c3 _ f3=>?_;have:=pfields a1 r c3 c1.2;rw [show c3.Fd=c.Fd from f3.trans (f2.trans f1)] at this;exact this
theorem pmembers (a1:TDef):∀(l:List Z7) (c:Z2) (m:List Bs),SP (Z90_q6 a1 l c m) c True
 | [],c,m=>Ps.pure rfl trivial
 | x::r,c,m=>by
  rw [Z90_q6];simp only [Ab.on];refine Ps.any fun y _=>Ps.any fun z _=>Ps.guard fun w=>?_;refine Ps.bind (paddS _ _ _ _) (Q:=True) (fun _ _=>trivial) fun c1 _ _=>?_;refine Ps.bind (paddS _ _ _ _) (Q:=True) (fun _ _=>trivial) fun c2 _ _=>?_;exact pmembers a1 r c2 _
def DefSaid (d:TDoc) (t:TDef):Prop:=t.FKind=1\/t.FKind=2->∀f∈t.FFields.l,OutOk d f.FType.FName
theorem pdef {d:TDoc}{t:TDef}{i:Nat}(ht:d.FDefs.l[i]?=some t) (c:Z2) (hd:c.Fd=d) (m:List Bs):SPp (Z85_q c (i:Int) m) c (DefSaid d t):=by
 unfold Z85_q;have hidx:idxC c.Fd.FDefs.l (i:Int)=some t:=by rw [hd]; unfold idxC; rw [if_pos (by simp),Int.toNat_natCast,ht]
 rw [hidx,Option.bind_some];simp only [Ab.on];refine Ps.any fun y _=>?_;refine Ps.bind (paddS _ _ _ _) (Q:=DefSaid d t) (fun _ h=>h) fun c1 _ f1=>?_;refine Ps.bind (paddS _ _ _ _) (Q:=DefSaid d t) (fun _ h=>h) fun c2 _ f2=>?_;refine Ps.bind (paddS _ _ _ _) (Q:=DefSaid d t) (fun _ h=>h) fun c3 _ f3=>?_;refine Ps.bind (paddS _ _ _ _) (Q:=DefSaid d t) (fun _ h=>h) fun c4 _ f4=>?_;refine Ps.guard fun w=>?_
 refine Ps.bind (paddS _ _ _ _) (Q:=DefSaid d t) (fun _ h=>h) fun c5 _ f5=>?_;have hd5:c5.Fd=d:=f5.trans (f4.trans (f3.trans (f2.trans (f1.trans hd))));refine Ps.cond (fun hk=>?_) fun hk=>?_
 ·unfold Z86_q;refine Ps.bind (Ps.bind (pfields _ _ _ _) (Q:=True) (fun h _=>h) fun c6 _ _=>Ps.pure rfl trivial) (Q:=True) (fun h _=>?_) fun c7 _ _=>Ps.pure rfl trivial;intro _ f hf;have:=h f hf;rw [hd5] at this;exact this
 ·have hs:DefSaid d t:=by
   intro h;rcases h with h|h<;>simp [h] at hk
  refine Ps.cond (fun _=>?_) fun _=>Ps.cond (fun _=>?_) fun _=>Ps.pure rfl hs
  ·unfold Z90_q;exact Ps.bind (Ps.bind (pmembers _ _ _ _) (Q:=True) (fun h _=>h) fun c6 _ _=>Ps.pure rfl trivial) (Q:=True) (fun _ _=>hs) fun c7 _ _=>Ps.pure rfl trivial
  ·refine Ps.any fun z _=>?_;unfold Z87_q;exact Ps.bind (Ps.bind (pinputs _ _ _ _ _) (Q:=True) (fun h _=>trivial) fun c6 _ _=>Ps.pure rfl trivial) (Q:=True) (fun _ _=>hs) fun c7 _ _=>Ps.pure rfl trivial
theorem pcheck {d:TDoc}:∀(l:List TDef) (i:Nat) (c:Z2) (m:List Bs),d.FDefs.l.drop i=l->c.Fd=d->SP (Z75_q20 l i c m) c (∀t∈l,DefSaid d t)
 | [],i,c,m,_,_=>Ps.pure rfl fun _ h=>by cases h
 | t::r,i,c,m,hl,hd=>by
  obtain⟨t1,t2⟩:=drop_nextS hl;rw [Z75_q20];refine Ps.bind (pdef t2 c hd m) (Q:=∀t∈r,DefSaid d t) (fun h h2 y hy=>?_) fun c1 _ f1=>?_
  ·rcases List.mem_cons.1 hy with rfl|hy
   ·exact h
   ·exact h2 y hy
  ·exact pcheck r (i+1) c1.1 c1.2 t1 (f1.trans hd)
theorem schema_said {d:TDoc}{b:Bool}{l:Sl Z3}(h:Z75_q d b=some l) (h0:l.l=[]):∀t∈d.FDefs.l,DefSaid d t:=by
 unfold Z75_q at h;cases e:Z75_q20 d.FDefs.l 0 (Z2.mk d (Sl.nil:Sl Z3)) [] with
 | none=>rw [e] at h; cases h
 | some c =>
  obtain⟨_,_,h3⟩:=pcheck (d:=d) d.FDefs.l 0 _ [] rfl rfl c e;refine h3 ?_;show c.Ffaults.l.length=0;rw [e,Option.bind_some] at h;simp only [Ab.on] at h;have key:SP (bif b&&!(Z78_q d ([81,117,101,114,121]:Bs)).2 then((Z84_q c true (30:Int) ([81,117,101,114,121]:Bs)).bind fun x17=>some x17) else(some c)) c True:=by
   refine Ps.cond (fun _=>?_) fun _=>Ps.pure rfl trivial;exact Ps.bind (paddS _ _ _ _) (Q:=True) (fun _ _=>trivial) fun c1 _ _=>Ps.pure rfl trivial
  revert key h
  generalize (bif b&&!(Z78_q d ([81,117,101,114,121]:Bs)).2 then((Z84_q c true (30:Int) ([81,117,101,114,121]:Bs)).bind fun x17=>some x17) else(some c))=o;intro h key;cases o with
  | none=>cases h
  | some v =>
   obtain⟨_,k2,_⟩:=key v rfl;have:v.Ffaults=l:=Option.some.inj h;have k2:c.Ffaults.l.length<=v.Ffaults.l.length:=k2;rw [this,h0] at k2
   simpa using k2
end Go.Proofs

namespace Go.Proofs
open Go Go.Ab
theorem overlap_told {d:TDoc}(h:d.FDefs.l.length<=1048576) (a b:Bs):∃v,Z11_q d a b=some v:=by
 unfold Z11_q;obtain⟨r,e,-⟩:=poss_told h b;obtain⟨r2,e2,-⟩:=poss_told h a;rw [e,Option.bind_some,e2]; exact⟨_,rfl⟩
abbrev GK (o:Option Z1) (c:Z1) (k:Nat):Prop:=Tk Z1.Fd (fun c=>c.Fout.l.length) o c k
theorem GKg {o:Option Z1}{c:Z1}{k:Nat}(h:GK o c k):∃c',o=some c'/\c'.Fd=c.Fd/\c'.Fout.l.length<=c.Fout.l.length+k:=h
theorem gadd {c:Z1}(h:c.Fout.l.length<=1000000000) (b:Bool) (e:Int) (s:Bs):GK (Z35_q c b e s) c 1:=by
 unfold Z35_q;refine Tk.cond (fun _=>?_) fun _=>Tk.pure c 1;rw [appC_ok (by decide) (by simp; omega),Option.bind_some];exact⟨_,rfl,rfl,by simp⟩
theorem apart_told {c:Z1}(h:c.Fd.FDefs.l.length<=1048576) (a b:Bs):∃v,Z36_q c a b=some v:=by
 unfold Z36_q;obtain⟨v,e⟩:=overlap_told h a b;rw [e];simp only [Ab.on];cases Z76_q c.Fd a<;>exact⟨_,rfl⟩
theorem sel_len (x:TSel):x.FAlias.length+x.FName.length+(x.FSels.l.map TSel.sz).sum+4<=x.sz:=by
 have h:=x.sz_def;have h1:Bs.sz x.FAlias=x.FAlias.length+1:=rfl;have h2:Bs.sz x.FName=x.FName.length+1:=rfl;have h3:Sl.sz TSel.sz x.FSels=1+(x.FSels.l.map TSel.sz).sum:=rfl;omega
theorem gsels:∀(n:Nat) (l:Sl TSel) (on_ at_:Bs) (c:Z1),(l.l.map TSel.sz).sum<n->at_.length+2*(l.l.map TSel.sz).sum<=100000000->c.Fd.FDefs.l.length<=1048576->c.Fout.l.length+2*(l.l.map TSel.sz).sum<=100000000->GK (Z37_qn n c l on_ at_) c (2*(l.l.map TSel.sz).sum)
 | 0,_,_,_,_,h,_,_,_=>by omega
 | n+1,l,on_,at_,c,hn,ha,hd,hb=>by
  have loop:∀(t:List TSel) (c:Z1),(t.map TSel.sz).sum<=n->at_.length+2*(t.map TSel.sz).sum<=100000000->c.Fd.FDefs.l.length<=1048576->c.Fout.l.length+2*(t.map TSel.sz).sum<=100000000->GK (Z37_q3 on_ at_ (Z37_qn n) t c) c (2*(t.map TSel.sz).sum):=by
   intro t;induction t with
   | nil=>intro c _ _ _ _; exact Tk.pure c _
   | cons x r ih =>
    intro c ht ha2 hd2 hb2;simp only [List.map_cons,List.sum_cons] at ht ha2 hb2 ⊢;have hx:=sel_len x;rw [Z37_q3];simp only [Ab.on];refine Tk.bind (k:=2*x.sz) (m:=2*(r.map TSel.sz).sum) ?_ (by omega) fun c' e' hc'=>ih c' (by omega) (by omega) (by rw [e']; exact hd2) (by omega);refine Tk.cond (fun _=>?_) fun _=>Tk.cond (fun _=>?_) fun _=>?_
    ·refine Tk.bind (k:=1) (m:=1) (gadd (by omega) _ _ _) (by omega) fun c1 e1 h1=>?_;refine Tk.guard (fun _=>apart_told (by rw [e1]; exact hd2) _ _) fun v=>?_;exact(gadd (by omega) _ _ _).map
    ·have sub:∀(b:Bs) (c1:Z1),c1.Fd=c.Fd->c1.Fout.l.length<=c.Fout.l.length+2->GK ((Z37_qn n c1 x.FSels b at_).bind fun x29=>some x29) c1 (2*(x.FSels.l.map TSel.sz).sum):=fun b c1 e1 h1 =>
      (gsels n x.FSels b at_ c1 (by omega) (by omega) (by rw [e1]; exact hd2) (by omega)).map
     cases (!(x.FOn==([]:Bs)))
     ·exact(sub on_ c rfl (by omega)).mono (by omega)
     ·rw [cond_true];obtain⟨c1,e1,f1,h1⟩:=GKg (gadd (c:=c) (by omega) (!Z76_q c.Fd x.FOn) 24 at_);rw [e1,Option.bind_some];obtain⟨v,hv⟩:=apart_told (c:=c1) (by rw [f1]; exact hd2) on_ x.FOn;have:∀w:Bool,GK ((((Z35_q c1 (Z76_q c.Fd x.FOn&&w) (25:Int) at_).bind fun x38=>some (x.FOn,x38)).bind fun z26=>(Z37_qn n z26.2 x.FSels z26.1 at_).bind fun x29=>some x29)) c (2*x.sz):=by
       intro w;obtain⟨c2,e2,f2,h2⟩:=GKg (gadd (c:=c1) (by omega) (Z76_q c.Fd x.FOn&&w) 25 at_);rw [e2];obtain⟨c3,e3,f3,h3⟩:=GKg (sub x.FOn c2 (f2.trans f1) (by omega));exact⟨c3,e3,f3.trans (f2.trans f1),by show c3.Fout.l.length<=c.Fout.l.length+2*x.sz; omega⟩
      rw [hv];cases hc:Z76_q c.Fd x.FOn
      ·have:=this false; rw [hc] at this; exact this
      ·have:=this v; rw [hc] at this; exact this
    ·have hk:(bif (x.FAlias==([]:Bs)) then x.FName else x.FAlias).length<=x.FAlias.length+x.FName.length:=by
      cases (x.FAlias==([]:Bs))<;>simp
     generalize (bif (x.FAlias==([]:Bs)) then x.FName else x.FAlias)=key at hk;rw [catC_ok (by simp; omega),Option.bind_some,catC_ok (by simp; omega),Option.bind_some];exact((gsels n x.FSels _ _ c (by omega) (by simp; omega) hd2 (by omega)).map).mono (by omega)
  rw [Z37_qn];exact(loop l.l c (by omega) ha hd hb).map
def fndG (l:List Z5) (s:Bs):Z5×Bool:=match l.find? (fun t=>t.FName==s) with|some t=>(t,true)|none=>(Z5.zero,false)
theorem ffindAux (l:List Z5) (s:Bs):Z33_q7 s l=match l.find? (fun t=>t.FName==s) with|some t=>Sum.inr (t,true)|none=>Sum.inl ():=by
 induction l with
 | nil=>rfl
 | cons a r ih =>
  rw [Z33_q7,List.find?_cons];simp only [Ab.on,ih];cases a.FName==s<;>rfl
theorem ffind_eq (q:Z8) (s:Bs):Z33_q q s=fndG q.FFrags.l s:=by
 unfold Z33_q fndG;simp only [Ab.on];rw [ffindAux];cases q.FFrags.l.find? (fun t=>t.FName==s)<;>rfl
theorem fndG_name {l:List Z5}{s:Bs}(h:(fndG l s).2=true):(fndG l s).1.FName=s/\(fndG l s).1∈l:=by
 unfold fndG at *;cases e:l.find? (fun t=>t.FName==s) with
 | none=>rw [e] at h; cases h
 | some t=>exact⟨by simpa using List.find?_some e,List.mem_of_find?_eq_some e⟩
theorem indexAux (s:Bs) (l:List Bs):∀n:Nat,(l.contains s=false->Z109_q6 s l n=Sum.inl ())/\(l.contains s=true->∃m:Nat,Z109_q6 s l n=Sum.inr (m:Int)):=by
 induction l with
 | nil=>intro n; exact⟨fun _=>rfl,fun h=>by simp at h⟩
 | cons a r ih =>
  intro n;rw [Z109_q6];simp only [Ab.on,List.contains_cons];cases s==a
  ·simp only [Bool.false_or,cond_false]; exact ih (n+1)
  ·simp only [Bool.true_or,cond_true]; exact⟨fun h=>by simp at h,fun _=>⟨n,rfl⟩⟩
theorem contains_eqB (a:Sl Bs) (s:Bs):Z102_q a s=a.l.contains s:=by
 unfold Z102_q Z109_q;simp only [Ab.on];have h:=indexAux s a.l 0;cases hc:a.l.contains s
 ·rw [h.1 hc]; rfl
 ·obtain⟨m,e⟩:=h.2 hc;rw [e]; exact decide_eq_true (by simp)
theorem unseen_all (fr:Sl Z5) (seen:List Bs):unseen fr seen<=fr.l.length:=List.length_filter_le _ _
def Vis (q:Z8) (o:Option (Sl Bs×Bool)) (s:Sl Bs):Prop:=∃s' b,o=some (s',b)/\(∀x∈s.l,x∈s'.l)/\unseen q.FFrags s'.l+s'.l.length<=unseen q.FFrags s.l+s.l.length
theorem meas_le {a b T x y n:Nat}(h:a<=b) (hx:x<=y) (h2:b*(T+1)+y<=n):a*(T+1)+x<=n:=by
 have:a*(T+1)<=b*(T+1):=Nat.mul_le_mul_right _ h;omega
theorem meas_lt {a b T x y n:Nat}(h:a<b) (hx:x<=T) (h2:b*(T+1)+y<=n):a*(T+1)+x<n:=by
 have:(a+1)*(T+1)<=b*(T+1):=Nat.mul_le_mul_right _ h;rw [Nat.succ_mul] at this;omega
theorem walk_loop {q:Z8}{T n:Nat}(hT:∀f∈q.FFrags.l,(f.FSels.l.map TSel.sz).sum<=T)
  (ih:∀(l:Sl TSel) (s:Sl Bs),unseen q.FFrags s.l*(T+1)+(l.l.map TSel.sz).sum<n->(l.l.map TSel.sz).sum<=T->unseen q.FFrags s.l+s.l.length<=1048576->Vis q (Z39_qn n q l s) s) :
  ∀(l:List TSel) (s:Sl Bs) (b:Bool),unseen q.FFrags s.l*(T+1)+(l.map TSel.sz).sum<=n->(l.map TSel.sz).sum<=T->unseen q.FFrags s.l+s.l.length<=1048576->Vis q (Z39_q9 q (Z39_qn n) l s b) s
 | [],s,b,_,_,_=>⟨s,b,rfl,fun _ h=>h,Nat.le_refl _⟩
 | h::r,s,b,hn,hl,hb=>by
  simp only [List.map_cons,List.sum_cons] at hn hl;have hp:(h.FSels.l.map TSel.sz).sum+4<=h.sz:=by have:=sel_len h; omega
  have rest:∀(o:Option (Sl Bs×Bool)),Vis q o s->Vis q (Option.bind o fun z16=>Z39_q9 q (Z39_qn n) r z16.1 z16.2) s:=fun o ho=>by
   obtain⟨s1,b1,e,hs,hu⟩:=ho;have hle:=unseen_le (fr:=q.FFrags) hs;obtain⟨s2,b2,e2,hs2,hu2⟩:=walk_loop hT ih r s1 b1 (meas_le hle (by omega) hn) (by omega) (by omega);exact⟨s2,b2,by rw [e,Option.bind_some]; exact e2,fun x hx=>hs2 x (hs x hx),by omega⟩
  rw [Z39_q9];simp only [Ab.on,ffind_eq,contains_eqB];refine rest _ ?_;cases decide (h.FKind=2)
  ·rw [cond_false];obtain⟨s1,b1,e,hs,hu⟩:=ih h.FSels s (by omega) (by omega) hb;exact⟨s1,b&&b1,by rw [e]; rfl,hs,hu⟩
  ·rw [cond_true];cases hf:(fndG q.FFrags.l h.FName).2
   ·exact⟨s,b&&false,rfl,fun _ h=>h,Nat.le_refl _⟩
   ·obtain⟨hn1,hm⟩:=fndG_name hf;simp only [Bool.not_true,Bool.not_false,cond_true,Bool.false_or];cases hc:s.l.contains h.FName
    ·rw [cond_false];have hsub:∀x∈s.l,x∈s.l++[h.FName]:=fun x hx=>by simp [hx]
     have hlt:=unseen_lt (fr:=q.FFrags) hsub hm (by rw [hn1]; simpa using hc) (by rw [hn1]; simp);rw [appC_ok (by decide) (by simp only [List.length_singleton]; omega),Option.bind_some];obtain⟨s1,b1,e,hs,hu⟩:=ih (fndG q.FFrags.l h.FName).1.FSels ⟨s.nl&&List.isEmpty [h.FName],s.l++[h.FName]⟩ (meas_lt hlt (hT _ hm) hn) (hT _ hm) (by simp only [List.length_append,List.length_singleton]; omega);refine⟨s1,(b&&true)&&b1,by rw [e]; rfl,fun x hx=>hs x (hsub x hx), ?_⟩
     simp only [List.length_append,List.length_singleton] at hu;omega
    ·exact⟨s,b&&true,rfl,fun _ h=>h,Nat.le_refl _⟩
theorem walk_tot {q:Z8}{T:Nat}(hT:∀f∈q.FFrags.l,(f.FSels.l.map TSel.sz).sum<=T):∀(n:Nat) (l:Sl TSel) (s:Sl Bs),unseen q.FFrags s.l*(T+1)+(l.l.map TSel.sz).sum<n->(l.l.map TSel.sz).sum<=T->unseen q.FFrags s.l+s.l.length<=1048576->Vis q (Z39_qn n q l s) s
 | 0,_,_,h,_,_=>by omega
 | n+1,l,s,hn,hl,hb=>by
  obtain⟨s1,b1,e,hs,hu⟩:=walk_loop hT (walk_tot hT n) l.l s true (by omega) hl hb;exact⟨s1,b1,by rw [Z39_qn,e]; rfl,hs,hu⟩
def QOkV (q:Z8):Prop:=q.FFrags.l.length<=1048576/\∀f∈q.FFrags.l,(f.FSels.l.map TSel.sz).sum<=1048576
theorem walk_top {q:Z8}(hq:QOkV q) (l:Sl TSel) (hl:(l.l.map TSel.sz).sum<=1048576):∃s' b,Z39_q q l Sl.nil=some (s',b)/\s'.l.length<=1048576:=by
 have hu:=unseen_all q.FFrags [];have h1:=hq.1;have hm:unseen q.FFrags []*(1048576+1)<=1048576*(1048576+1):=Nat.mul_le_mul_right _ (by omega);obtain⟨s',b,e,_,h2⟩:=walk_tot hq.2 F0 l Sl.nil (by rw [F0_eq]; simp only [Sl.nil]; omega) hl (by simp only [Sl.nil,List.length_nil]; omega);refine⟨s',b,e, ?_⟩;simp only [Sl.nil,List.length_nil] at h2;omega
theorem loops_told13 {q:Z8}(hq:QOkV q) (f:Z5) (hf:(f.FSels.l.map TSel.sz).sum<=1048576):∃b,Z38_q q f=some b:=by
 obtain⟨s,b,e,_⟩:=walk_top hq f.FSels hf;unfold Z38_q;rw [e]; exact⟨_,rfl⟩
theorem op_sels (o:TOp):(o.FSels.l.map TSel.sz).sum+o.FName.length<=o.sz:=by
 have h:=o.sz_def;have h1:Bs.sz o.FName=o.FName.length+1:=rfl;have h3:Sl.sz TSel.sz o.FSels=1+(o.FSels.l.map TSel.sz).sum:=rfl;omega
theorem frag_sels (o:Z5):(o.FSels.l.map TSel.sz).sum+o.FName.length<=o.sz:=by
 have h:=o.sz_def;have h1:Bs.sz o.FName=o.FName.length+1:=rfl;have h3:Sl.sz TSel.sz o.FSels=1+(o.FSels.l.map TSel.sz).sum:=rfl;omega
theorem gops {q:Z8}(hq:QOkV q):∀(l:List TOp) (c:Z1) (m:List Bs),(l.map TOp.sz).sum<=1048576->c.Fd.FDefs.l.length<=1048576->c.Fout.l.length+2*(l.map TOp.sz).sum<=10000000->∃c' m',Z32_q35 q l c m=some (c',m')/\c'.Fd=c.Fd/\c'.Fout.l.length<=c.Fout.l.length+2*(l.map TOp.sz).sum
 | [],c,m,_,_,_=>⟨c,m,rfl,rfl,by omega⟩
 | o::r,c,m,hl,hd,hb=>by
  simp only [List.map_cons,List.sum_cons] at hl hb ⊢;have ho:=op_sels o;rw [Z32_q35];simp only [Ab.on];obtain⟨c1,e1,f1,h1⟩:=GKg (gsels F0 o.FSels (Z82_q o.FKind) o.FName c (by rw [F0_eq]; omega) (by omega) hd (by omega));rw [show Z37_q c o.FSels (Z82_q o.FKind) o.FName=some c1 from e1,Option.bind_some];obtain⟨s,b,e2,_⟩:=walk_top hq o.FSels (by omega);rw [e2,Option.bind_some];obtain⟨c2,m2,e3,f3,h3⟩:=gops hq r c1 (Z32_q55 s.l m) (by omega) (by rw [f1]; exact hd) (by omega)
  exact⟨c2,m2,e3,f3.trans f1,by omega⟩
theorem gfrags {d:TDoc}{q:Z8}(hq:QOkV q) (M:List Bs):∀(l:List Z5) (c:Z1),(l.map Z5.sz).sum<=1048576->c.Fd.FDefs.l.length<=1048576->c.Fout.l.length+3*l.length+2*(l.map Z5.sz).sum<=20000000->GK (Z32_q15 d q M l c) c (3*l.length+2*(l.map Z5.sz).sum)
 | [],c,_,_,_=>Tk.pure c _
 | f::r,c,hl,hd,hb=>by
  simp only [List.map_cons,List.sum_cons,List.length_cons] at hl hb ⊢;have hf:=frag_sels f;rw [Z32_q15];simp only [Ab.on];refine Tk.bind (k:=1) (m:=2+3*r.length+2*(f.sz+(r.map Z5.sz).sum)) (gadd (by omega) _ _ _) (by omega) fun c1 e1 h1=>?_;refine Tk.bindT (loops_told13 hq f (by omega)) fun v _=>?_;refine Tk.bind (k:=1) (m:=1+3*r.length+2*(f.sz+(r.map Z5.sz).sum)) (gadd (by omega) _ _ _) (by omega) fun c2 e2 h2=>?_
  refine Tk.bind (k:=1) (m:=3*r.length+2*(f.sz+(r.map Z5.sz).sum)) (gadd (by omega) _ _ _) (by omega) fun c3 e3 h3=>?_;have e:c3.Fd=c.Fd:=e3.trans (e2.trans e1);refine Tk.bind (k:=2*f.sz) (m:=3*r.length+2*(r.map Z5.sz).sum) ((gsels F0 f.FSels f.FOn f.FName c3 (by rw [F0_eq]; omega) (by omega) (by rw [e]; exact hd) (by omega)).mono (by omega)) (by omega) fun c4 e4 h4=>?_;exact gfrags hq M r c4 (by omega) (by rw [e4.trans e]; exact hd) (by omega)
theorem qokv {q:Z8}(hq:q.sz<=1048576):QOkV q:=by
 have h:=q.sz_def;have h1:=Sl.len_lt (f:=Z5.sz) q.FFrags Z5.pos;refine⟨by omega,fun f hf=>?_⟩;have h2:=Sl.mem_le (f:=Z5.sz) hf;have h3:=frag_sels f;omega
theorem fragment_told {d:TDoc}{q:Z8}(hd:d.FDefs.l.length<=1048576) (hq:q.sz<=1048576):∃l,Z32_q d q=some l:=by
 have h:=q.sz_def;have h1:Sl.sz TOp.sz q.FOps=1+(q.FOps.l.map TOp.sz).sum:=rfl;have h2:Sl.sz Z5.sz q.FFrags=1+(q.FFrags.l.map Z5.sz).sum:=rfl;have h3:=Sl.len_lt (f:=Z5.sz) q.FFrags Z5.pos;unfold Z32_q;obtain⟨c,m,e,f,g⟩:=gops (qokv hq) q.FOps.l (Z1.mk d q (Sl.nil:Sl Z3)) [] (by omega) hd (by show 0+_<=_; omega);have g:c.Fout.l.length<=0+2*(q.FOps.l.map TOp.sz).sum:=g;have f:c.Fd=d:=f;rw [e,Option.bind_some]
 simp only [Ab.on];obtain⟨c2,e2,_⟩:=GKg (gfrags (d:=d) (qokv hq) m q.FFrags.l c (by omega) (by rw [f]; exact hd) (by omega));rw [e2];exact⟨_,rfl⟩
end Go.Proofs

namespace Go.Proofs
open Go Go.Ab
inductive GSel (d:TDoc):TSel->Prop
 | mk (s:TSel):(s.FKind=3->s.FOn≠[]->Z76_q d s.FOn=true)->(s.FKind≠2->∀x∈s.FSels.l,GSel d x)->GSel d s
abbrev GP (o:Option Z1) (c:Z1) (P:Prop):Prop:=Ps Z1.Fd (fun c=>c.Fout.l.length) id o c P
theorem paddG (c:Z1) (b:Bool) (e:Int) (s:Bs):GP (Z35_q c b e s) c (b=false):=by
 unfold Z35_q;cases b
 ·exact Ps.pure rfl rfl
 ·rw [cond_true];intro a ha;cases h:appC 24 c.Fout ⟨false,[Z3.mk e s]⟩ with
  | none=>rw [h] at ha; cases ha
  | some v =>
   have hv:=len_appC h;rw [h] at ha; cases ha;simp only [List.length_singleton] at hv;exact⟨rfl,by show c.Fout.l.length<=v.l.length; omega,fun e=>absurd (show v.l.length=c.Fout.l.length from e) (by omega)⟩
theorem psels {d:TDoc}:∀(n:Nat) (l:Sl TSel) (on_ at_:Bs) (c:Z1),c.Fd=d->GP (Z37_qn n c l on_ at_) c (∀s∈l.l,GSel d s)
 | 0,_,_,_,_,_=>fun a e=>by cases e
 | n+1,l,on_,at_,c,hc=>by
  have loop:∀(t:List TSel) (c:Z1),c.Fd=d->GP (Z37_q3 on_ at_ (Z37_qn n) t c) c (∀s∈t,GSel d s):=by
   intro t;induction t with
   | nil=>intro c _; exact Ps.pure rfl fun _ h=>by cases h
   | cons x r ih =>
    intro c hc;rw [Z37_q3];simp only [Ab.on];refine Ps.bind (P:=GSel d x) (pr:=id) ?_ (Q:=∀s∈r,GSel d s) (fun h h2 y hy=>?_) fun c1 _ f1=>ih c1 (f1.trans hc)
    ·refine Ps.cond (fun hk=>?_) fun h2=>Ps.cond (fun hk=>?_) fun h3=>?_
     ·have hk:=of_decide_eq_true hk;have hg:GSel d x:=⟨_,fun h=>absurd (hk.symm.trans h) (by decide),fun h=>absurd hk h⟩;refine Ps.bind (paddG _ _ _ _) (Q:=True) (fun _ _=>hg) fun c1 _ _=>?_;refine Ps.guard fun v=>?_;exact Ps.bind (paddG _ _ _ _) (Q:=True) (fun _ _=>trivial) fun c2 _ _=>Ps.pure rfl trivial
     ·have hk:=of_decide_eq_true hk;refine Ps.bind (pr:=fun z:Bs×Z1=>z.2) (P:=x.FOn≠[]->Z76_q d x.FOn=true) ?_ (Q:=∀s∈x.FSels.l,GSel d s) (fun h h2=>⟨_,fun _=>h,fun _=>h2⟩) fun z _ f1=>?_
      ·refine Ps.cond (fun ho=>?_) fun ho=>Ps.pure rfl fun h=>absurd (by simpa using ho) h;refine Ps.bind (paddG _ _ _ _) (Q:=True) (fun h _ _=>by rw [<- hc]; simpa using h) fun c1 _ _=>?_;refine Ps.guard fun v=>?_;exact Ps.bind (paddG _ _ _ _) (Q:=True) (fun _ _=>trivial) fun c2 _ _=>Ps.pure rfl trivial
      ·exact Ps.bind (psels n x.FSels z.1 at_ z.2 (f1.trans hc)) (Q:=True) (fun h _=>h) fun c2 _ _=>Ps.pure rfl trivial
     ·have h2:=of_decide_eq_false h2;have h3:=of_decide_eq_false h3;refine Ps.any fun a _=>Ps.any fun b _=>?_;exact Ps.bind (psels n x.FSels _ _ c hc) (Q:=True) (fun h _=>⟨_,fun e=>absurd e h3,fun _=>h⟩) fun c2 _ _=>Ps.pure rfl trivial
    ·rcases List.mem_cons.1 hy with rfl|hy
     ·exact h
     ·exact h2 y hy
  rw [Z37_qn];exact Ps.bind (loop l.l c hc) (Q:=True) (fun h _=>h) fun c1 _ _=>Ps.pure rfl trivial
theorem pops {d:TDoc}{q:Z8}:∀(l:List TOp) (c:Z1) (m:List Bs),c.Fd=d->Ps Z1.Fd (fun c=>c.Fout.l.length) (fun z:Z1×List Bs=>z.1) (Z32_q35 q l c m) c (∀o∈l,∀s∈o.FSels.l,GSel d s)
 | [],c,m,_=>Ps.pure rfl fun _ h=>by cases h
 | o::r,c,m,hc=>by
  rw [Z32_q35];simp only [Ab.on];refine Ps.bind (pr:=id) (psels F0 o.FSels (Z82_q o.FKind) o.FName c hc) (Q:=∀o∈r,∀s∈o.FSels.l,GSel d s) (fun h h2 y hy=>?_) fun c1 _ f1=>?_
  ·rcases List.mem_cons.1 hy with rfl|hy
   ·exact h
   ·exact h2 y hy
  ·exact Ps.any fun w _=>pops r c1 _ (f1.trans hc)
theorem pfrags {d:TDoc}{q:Z8}(M:List Bs):∀(l:List Z5) (c:Z1),c.Fd=d->GP (Z32_q15 d q M l c) c (∀o∈l,Z76_q d o.FOn=true/\∀s∈o.FSels.l,GSel d s)
 | [],c,_=>Ps.pure rfl fun _ h=>by cases h
 | o::r,c,hc=>by
  rw [Z32_q15];simp only [Ab.on];have key:∀{c1:Z1},c1.Fd=d->∀{A:Prop},(A->Z76_q d o.FOn=true)->GP (Z37_q c1 o.FSels o.FOn o.FName) c1 (∀s∈o.FSels.l,GSel d s):=fun h _ _=>psels F0 o.FSels o.FOn o.FName _ h;refine Ps.bind (paddG _ _ _ _) (Q:=(∀s∈o.FSels.l,GSel d s)/\∀o∈r,Z76_q d o.FOn=true/\∀s∈o.FSels.l,GSel d s) (fun h h2 y hy=>?_) fun c1 _ f1=>?_
  ·rcases List.mem_cons.1 hy with rfl|hy
   ·exact⟨by simpa using h,h2.1⟩
   ·exact h2.2 y hy
  ·refine Ps.any fun w _=>?_;refine Ps.bind (paddG _ _ _ _) (Q:=(∀s∈o.FSels.l,GSel d s)/\∀o∈r,Z76_q d o.FOn=true/\∀s∈o.FSels.l,GSel d s) (fun _ h=>h) fun c2 _ f2=>?_;refine Ps.bind (paddG _ _ _ _) (Q:=(∀s∈o.FSels.l,GSel d s)/\∀o∈r,Z76_q d o.FOn=true/\∀s∈o.FSels.l,GSel d s) (fun _ h=>h) fun c3 _ f3=>?_;have e:c3.Fd=d:=f3.trans (f2.trans (f1.trans hc));refine Ps.bind (psels F0 o.FSels o.FOn o.FName c3 e) (Q:=∀o∈r,Z76_q d o.FOn=true/\∀s∈o.FSels.l,GSel d s) (fun h h2=>⟨h,h2⟩) fun c4 _ f4=>?_
   exact pfrags M r c4 (f4.trans e)
theorem fragment_said {d:TDoc}{q:Z8}{l:Sl Z3}(h:Z32_q d q=some l) (h0:l.l=[]):(∀o∈q.FOps.l,∀s∈o.FSels.l,GSel d s)/\∀o∈q.FFrags.l,Z76_q d o.FOn=true/\∀s∈o.FSels.l,GSel d s:=by
 unfold Z32_q at h;cases e:Z32_q35 q q.FOps.l (Z1.mk d q (Sl.nil:Sl Z3)) [] with
 | none=>rw [e] at h; cases h
 | some z =>
  rw [e,Option.bind_some] at h;simp only [Ab.on] at h;obtain⟨f1,g1,s1⟩:=pops (d:=d) q.FOps.l _ [] rfl z e;cases e2:Z32_q15 d q z.2 q.FFrags.l z.1 with
  | none=>rw [e2] at h; cases h
  | some c =>
   rw [e2] at h;obtain⟨f2,g2,s2⟩:=pfrags (d:=d) z.2 q.FFrags.l z.1 f1 c e2;have hl:c.Fout=l:=Option.some.inj h;have g2:z.1.Fout.l.length<=c.Fout.l.length:=g2;have hz:z.1.Fout.l.length=0:=by rw [hl,h0] at g2; simpa using g2
   refine⟨s1 hz,s2 ?_⟩;show c.Fout.l.length=z.1.Fout.l.length;rw [hz,hl,h0]; rfl
end Go.Proofs

namespace Go.Proofs
open Go Go.Ab
theorem condS {α:Type}{c:Bool}{a b:Option α}{z:α}(h:cond c a b=some z):(c=true/\a=some z)\/(c=false/\b=some z):=by cases c; exact .inr ⟨rfl,h⟩; exact .inl ⟨rfl,h⟩
theorem flt_nil {b:Bool}{e:Int}{a:Bs}(h:flt b e a=[]):b=false:=by
 cases b
 ·rfl
 ·cases h
def KindOk (t:TDef):Prop:=(t.FKind=1\/t.FKind=2\/t.FKind=3\/t.FKind=4\/t.FKind=5)/\(t.FKind=3->t.FFields.l=[])
theorem defRight_kind {t:TDef}(h:Z58_q t=some true):KindOk t:=by
 unfold Z58_q at h;simp only [Ab.on] at h;obtain⟨x5,_,h⟩:=guardO_some h;rcases condS h with ⟨_,h⟩|⟨_,h⟩
 ·cases h
 ·cases e:Z58_q34 t.FImplements.l with
  | inr b =>
   rw [e] at h;have h2:∀l:List Bs,Z58_q34 l=Sum.inr b->b=false:=by
    intro l;induction l with
    | nil=>intro h; cases h
    | cons a r ih =>
     intro h;rw [Z58_q34] at h;simp only [Ab.on] at h;cases hn:Z46_q a<;>rw [hn] at h
     ·cases h; rfl
     ·exact ih h
   rw [h2 _ e] at h; cases h
  | inl u =>
   rw [e] at h;dsimp only at h;rcases condS h with ⟨k,h⟩|⟨k1,h⟩
   ·have k:=of_decide_eq_true k;exact⟨.inl k,fun h3=>absurd (k.symm.trans h3) (by decide)⟩
   rcases condS h with ⟨k,h⟩|⟨k2,h⟩
   ·have k:=of_decide_eq_true k;exact⟨.inr (.inl k),fun h3=>absurd (k.symm.trans h3) (by decide)⟩
   rcases condS h with ⟨k,h⟩|⟨k3,h⟩
   ·have k:=of_decide_eq_true k;obtain⟨x,_,h⟩:=guardO_some h;have h:=Option.some.inj h;simp only [Bool.and_eq_true,decide_eq_true_eq] at h;exact⟨.inr (.inr (.inl k)),fun _=>List.eq_nil_of_length_eq_zero (by omega)⟩
   rcases condS h with ⟨k,h⟩|⟨k4,h⟩
   ·have k:=of_decide_eq_true k;exact⟨.inr (.inr (.inr (.inl k))),fun h3=>absurd (k.symm.trans h3) (by decide)⟩
   rcases condS h with ⟨k,h⟩|⟨k5,h⟩
   ·have k:=of_decide_eq_true k;exact⟨.inr (.inr (.inr (.inr k))),fun h3=>absurd (k.symm.trans h3) (by decide)⟩
   ·cases h
theorem defs_kind:∀l:List TDef,Z56_q10 l=some (Sum.inl ())->∀t∈l,KindOk t
 | [],_,_,h=>by cases h
 | a::r,h,t,ht=>by
  rw [Z56_q10] at h;simp only [Ab.on] at h;obtain⟨b,e,h⟩:=bindO_some h;cases b
  ·cases h
  ·rcases List.mem_cons.1 ht with rfl|ht
   ·exact defRight_kind e
   ·exact defs_kind r h t ht
theorem kinds {d:TDoc}(h:Z56_q d=some true):∀t∈d.FDefs.l,KindOk t:=by
 unfold Z56_q at h;rcases condS h with ⟨_,h⟩|⟨_,h⟩
 ·cases h
 ·obtain⟨z,g,h⟩:=bindO_some h;cases z with
  | inl u=>exact defs_kind _ g
  | inr b =>
   have h2:∀l:List TDef,Z56_q10 l=some (Sum.inr b)->b=false:=by
    intro l;induction l with
    | nil=>intro h; cases h
    | cons a r ih =>
     intro h;rw [Z56_q10] at h;simp only [Ab.on] at h;obtain⟨x,e,h⟩:=bindO_some h;cases x
     ·cases h; rfl
     ·exact ih h
   rw [h2 _ g] at h; cases h
def LC (d:TDoc) (n:Bs):Prop:=Z81_q d n=true\/Z76_q d n=true
theorem fnd_in {l:List TDef}{s:Bs}(h:(fnd l s).2=true):(fnd l s).1∈l:=by
 unfold fnd at *;cases e:l.find? (fun t=>t.FName==s) with
 | none=>rw [e] at h; cases h
 | some t=>exact List.mem_of_find?_eq_some e
theorem out_lc {d:TDoc}(hk:∀t∈d.FDefs.l,KindOk t){n:Bs}(h:OutOk d n):LC d n:=by
 unfold LC Z81_q Z76_q;simp only [Ab.on];cases hs:Z83_q n
 ·rcases h with h|⟨h1,h2⟩
  ·rw [hs] at h; cases h
  ·have h3:Z93_q d n=(fnd d.FDefs.l n).1.FKind:=by unfold Z93_q; rw [find_eq]; rfl
   rw [find_eq] at h1;rcases (hk _ (fnd_in h1)).1 with e|e|e|e|e<;>rw [h3] at h2 ⊢<;>rw [e] at h2 ⊢
   ·right; rfl
   ·right; rfl
   ·right; rfl
   ·left; rfl
   ·exact absurd rfl h2
 ·left; rfl
theorem comp_kind {d:TDoc}{n:Bs}(h:Z76_q d n=true):(fnd d.FDefs.l n).1.FKind=1\/(fnd d.FDefs.l n).1.FKind=2\/(fnd d.FDefs.l n).1.FKind=3:=by
 unfold Z76_q Z93_q at h;simp only [Ab.on,find_eq,Bool.and_eq_true,Bool.or_eq_true,decide_eq_true_eq] at h;rcases h.2 with (h|h)|h
 ·exact .inl h
 ·exact .inr (.inl h)
 ·exact .inr (.inr h)
theorem type_lc {d:TDoc}(hk:∀t∈d.FDefs.l,KindOk t) (hs:∀t∈d.FDefs.l,DefSaid d t) (on_ f:Bs) (h:(typeX d on_ f).2=true):LC d (typeX d on_ f).1.FName:=by
 unfold typeX at h ⊢;cases hc:Z76_q d on_
 ·rw [hc] at h; cases h
 ·rw [hc] at h;simp only [Bool.not_true,cond_false] at h ⊢;cases hf:f==sTypename
  ·rw [hf] at h;simp only [cond_false] at h ⊢;cases hF:(fndF (fnd d.FDefs.l on_).1.FFields.l f).2
   ·rw [hF] at h; cases h
   ·simp only [Bool.not_true,cond_false];have hin:(fnd d.FDefs.l on_).1∈d.FDefs.l:=by
     rcases fnd_mem d.FDefs.l on_ with e|e
     ·rw [e] at hF; cases hF
     ·exact e
    have hfin:(fndF (fnd d.FDefs.l on_).1.FFields.l f).1∈(fnd d.FDefs.l on_).1.FFields.l:=by
     unfold fndF at hF ⊢;cases e:(fnd d.FDefs.l on_).1.FFields.l.find? (fun t=>t.FName==f) with
     | none=>rw [e] at hF; cases hF
     | some t=>exact List.mem_of_find?_eq_some e
    refine out_lc hk (hs _ hin ?_ _ hfin);rcases comp_kind hc with e|e|e
    ·exact .inl e
    ·exact .inr e
    ·rw [(hk _ hin).2 e] at hfin; cases hfin
  ·exact .inl rfl
theorem own_said {d:TDoc}{s:TSel}{on_ a:Bs}(h:ownX d s on_ a=[]) (hc:Z76_q d on_=true) (hlc:(typeX d on_ s.FName).2=true->LC d (typeX d on_ s.FName).1.FName):(typeX d on_ s.FName).2=true/\(s.FSels.l=[]\/Z76_q d (typeX d on_ s.FName).1.FName=true):=by
 unfold ownX at h;obtain⟨_,h⟩:=List.append_eq_nil_iff.1 h;obtain⟨h1,h⟩:=List.append_eq_nil_iff.1 h;have h1:=flt_nil h1;cases ht:(typeX d on_ s.FName).2
 ·rw [ht,hc] at h1; cases h1
 ·refine⟨rfl, ?_⟩;rw [ht] at h;obtain⟨h,_⟩:=List.append_eq_nil_iff.1 h;obtain⟨h,_⟩:=List.append_eq_nil_iff.1 h;unfold leafX at h;have h:=flt_nil h;rcases hlc ht with hl|hl
  ·left
   rw [hl] at h;cases hn:s.FSels.l with
   | nil=>rfl
   | cons x r=>rw [hn] at h; simp at h
  ·exact .inr hl
theorem root_comp {d:TDoc}{k:Int}(h1:(fnd d.FDefs.l (Z82_q k)).2=true) (h2:(fnd d.FDefs.l (Z82_q k)).1.FKind=1):Z76_q d (Z82_q k)=true:=by
 have hs:Z83_q (Z82_q k)=false:=by
  unfold Z82_q;cases decide (k=1)
  ·cases decide (k=2)
   ·cases decide (k=3)<;>rfl
   ·rfl
  ·rfl
 unfold Z76_q Z93_q;simp only [Ab.on,find_eq];rw [hs,h2]; rfl
theorem nil_of {α:Type}{l:List α}(h:decide ((0:Int)<((l.length:Nat):Int))=false):l=[]:=by
 cases l with
 | nil=>rfl
 | cons a r=>simp at h
end Go.Proofs



namespace Go.Proofs
open Go Go.Ab
attribute [local instance] Classical.propDecidable
abbrev wr (n:Int):Int:=IntKind.wrap .i64 n
theorem wr_eq (n:Int):wr n=(n+9223372036854775808) % 18446744073709551616-9223372036854775808:=by
 unfold wr;simp [IntKind.wrap,IntKind.bits,IntKind.signed]
 split<;>omega
theorem wr_add (a b:Int):wr (wr a+b)=wr (a+b):=by rw [wr_eq,wr_eq a,wr_eq]; omega
theorem wr_add' (a b:Int):wr (a+wr b)=wr (a+b):=by rw [Int.add_comm,wr_add,Int.add_comm]
theorem wr_wr (a:Int):wr (wr a)=wr a:=by have:=wr_add a 0; simpa using this
theorem wr_id {n:Int}(h : -9223372036854775808<=n/\n<=9223372036854775807):wr n=n:=by rw [wr_eq]; omega
theorem sameU_refl (x:TUse):sameU x x:=⟨rfl,rfl,rfl⟩
theorem sameU_symm {x y:TUse}(h:sameU x y):sameU y x:=⟨h.1.symm,h.2.1.symm,h.2.2.symm⟩
theorem sameU_trans {x y z:TUse}(h:sameU x y) (h':sameU y z):sameU x z:=⟨h.1.trans h'.1,h.2.1.trans h'.2.1,h.2.2.trans h'.2.2⟩
theorem sameU_not {x y:TUse}(h:sameU x y):¬ltU x y:=fun h2=>ltU_irrefl y ((ltU_same h).1.1 h2)
def sameB (x y:TUse):Bool:=x.FType==y.FType&&(x.FField==y.FField&&x.FArg==y.FArg)
theorem sameB_iff (x y:TUse):sameB x y=true↔sameU x y:=by simp [sameB,sameU]
def cnt (l:List TUse) (k:TUse):Int:=((l.filter (sameB k)).map (·.FCount)).sum
theorem cnt_cons (x:TUse) (l:List TUse) (k:TUse):cnt (x::l) k=(if sameU k x then x.FCount else 0)+cnt l k:=by
 unfold cnt;by_cases h:sameU k x
 ·rw [List.filter_cons_of_pos ((sameB_iff _ _).2 h),if_pos h]; simp
 ·rw [List.filter_cons_of_neg (by rw [sameB_iff]; exact h),if_neg h]; simp
theorem cnt_app (l m:List TUse) (k:TUse):cnt (l++m) k=cnt l k+cnt m k:=by simp [cnt]
theorem cnt_same {x y:TUse}(h:sameU x y) (l:List TUse):cnt l x=cnt l y:=by
 unfold cnt; congr 2; apply List.filter_congr; intro z _;rw [Bool.eq_iff_iff,sameB_iff,sameB_iff]; exact⟨fun g=>sameU_trans (sameU_symm h) g,fun g=>sameU_trans h g⟩
theorem cnt_perm {l m:List TUse}(h:l.Perm m) (k:TUse):cnt l k=cnt m k:=by
 induction h with
 | nil=>rfl
 | cons x _ ih=>rw [cnt_cons,cnt_cons,ih]
 | swap x y l=>simp only [cnt_cons]; omega
 | trans _ _ ih1 ih2=>rw [ih1,ih2]
theorem cnt_none {l:List TUse}{k:TUse}(h:∀x∈l,¬sameU k x):cnt l k=0:=by
 induction l with
 | nil=>rfl
 | cons x r ih=>rw [cnt_cons,if_neg (h x (by simp)),ih fun y hy=>h y (by simp [hy])]; simp

structure Canon (l L:List TUse):Prop where
 srt:L.Pairwise ltU
 mem:∀x,x∈L↔(∃y∈l,sameU y x)/\x.FCount=wr (cnt l x)
theorem strict_ext:∀{L M:List TUse},L.Pairwise ltU->M.Pairwise ltU->(∀x,x∈L↔x∈M)->L=M
 | [],[],_,_,_=>rfl
 | [],y::M,_,_,h=>by have:=(h y).2 (by simp); simp at this
 | x::L,[],_,_,h=>by have:=(h x).1 (by simp); simp at this
 | x::L,y::M,hL,hM,h=>by
  rw [List.pairwise_cons] at hL hM;have e:x=y:=by
   rcases List.mem_cons.1 ((h x).1 (by simp)) with e|hx
   ·exact e
   ·rcases List.mem_cons.1 ((h y).2 (by simp)) with e|hy
    ·exact e.symm
    ·exact absurd (ltU_trans (hL.1 y hy) (hM.1 x hx)) (ltU_irrefl x)
  subst e
  congr 1
  refine strict_ext hL.2 hM.2 fun z=>⟨fun hz=>?_,fun hz=>?_⟩
  ·rcases List.mem_cons.1 ((h z).1 (by simp [hz])) with e|hz'
   ·exact absurd (e▸hL.1 z hz) (ltU_irrefl x)
   ·exact hz'
  ·rcases List.mem_cons.1 ((h z).2 (by simp [hz])) with e|hz'
   ·exact absurd (e▸hM.1 z hz) (ltU_irrefl x)
   ·exact hz'
theorem Canon.unique {l L M:List TUse}(h:Canon l L) (h':Canon l M):L=M:=strict_ext h.srt h'.srt fun x=>by rw [h.mem,h'.mem]
theorem Canon.perm {l m L:List TUse}(h:Canon l L) (hp:l.Perm m):Canon m L:=by
 refine⟨h.srt,fun x=>?_⟩;rw [h.mem,cnt_perm hp];constructor
 ·rintro ⟨⟨y,hy,g⟩,e⟩; exact⟨⟨y,hp.mem_iff.1 hy,g⟩,e⟩
 ·rintro ⟨⟨y,hy,g⟩,e⟩; exact⟨⟨y,hp.mem_iff.2 hy,g⟩,e⟩
theorem Canon.nil:Canon [] []:=⟨.nil,fun x=>by simp⟩
def addU (u:TUse) (n:Int):TUse:=TUse.mk u.FType u.FField u.FArg n
noncomputable def ins:List TUse->TUse->List TUse
 | [],u=>[u]
 | y::r,u=>if ltU y u then y::ins r u else if ltU u y then u::y::r else addU u (wr (u.FCount+y.FCount))::r
theorem sameU_add (u:TUse) (n:Int):sameU (addU u n) u:=⟨rfl,rfl,rfl⟩
theorem ins_mem {L:List TUse}(hL:L.Pairwise ltU) (u:TUse):∀x,x∈ins L u↔(x∈L/\¬sameU x u)\/(x=u/\∀y∈L,¬sameU y u)\/∃y∈L,sameU y u/\x=addU u (wr (u.FCount+y.FCount)):=by
 induction L with
 | nil=>intro x; simp [ins]
 | cons y r ih =>
  intro x;rw [List.pairwise_cons] at hL;rw [ins]
  split
  ·rename_i h1
   have hn:¬sameU y u:=fun g=>sameU_not g h1;rw [List.mem_cons,ih hL.2];constructor
   ·rintro (rfl|⟨h,g⟩|⟨h,g⟩|⟨z,h,g⟩)
    ·exact .inl ⟨by simp,hn⟩
    ·exact .inl ⟨by simp [h],g⟩
    ·refine .inr (.inl ⟨h,fun z hz=>?_⟩);rcases List.mem_cons.1 hz with rfl|hz
     ·exact hn
     ·exact g z hz
    ·exact .inr (.inr ⟨z,by simp [h],g⟩)
   ·rintro (⟨h,g⟩|⟨h,g⟩|⟨z,h,g⟩)
    ·rcases List.mem_cons.1 h with rfl|h
     ·exact .inl rfl
     ·exact .inr (.inl ⟨h,g⟩)
    ·exact .inr (.inr (.inl ⟨h,fun z hz=>g z (by simp [hz])⟩))
    ·rcases List.mem_cons.1 h with rfl|h
     ·exact absurd g.1 hn
     ·exact .inr (.inr (.inr ⟨z,h,g⟩))
  ·split
   ·rename_i h1 h2
    have hall:∀z∈y::r,¬sameU z u:=fun z hz g=>by
     rcases List.mem_cons.1 hz with rfl|hz
     ·exact sameU_not (sameU_symm g) h2
     ·exact sameU_not (sameU_symm g) (ltU_trans h2 (hL.1 z hz))
    constructor
    ·intro h;rcases List.mem_cons.1 h with rfl|h
     ·exact .inr (.inl ⟨rfl,hall⟩)
     ·exact .inl ⟨h,hall x h⟩
    ·rintro (⟨h,_⟩|⟨h,_⟩|⟨z,h,g,_⟩)
     ·exact List.mem_cons_of_mem _ h
     ·rw [h]; simp
     ·exact absurd g (hall z h)
   ·rename_i h1 h2
    have hs:sameU y u:=by rcases ltU_tri y u with g|g|g; exact absurd g h1; exact g; exact absurd g h2
    have hr:∀z∈r,¬sameU z u:=fun z hz g=>sameU_not (sameU_trans hs (sameU_symm g)) (hL.1 z hz);constructor
    ·intro h;rcases List.mem_cons.1 h with rfl|h
     ·exact .inr (.inr ⟨y,by simp,hs,rfl⟩)
     ·exact .inl ⟨by simp [h],hr x h⟩
    ·rintro (⟨h,g⟩|⟨_,h⟩|⟨z,h,g,e⟩)
     ·rcases List.mem_cons.1 h with rfl|h
      ·exact absurd hs g
      ·simp [h]
     ·exact absurd hs (h y (by simp))
     ·rcases List.mem_cons.1 h with rfl|h
      ·rw [e]; simp
      ·exact absurd g (hr z h)
theorem ins_lt {L:List TUse}{u x:TUse}(hx:∀y∈L,ltU x y) (hu:ltU x u):∀y∈ins L u,ltU x y:=by
 induction L with
 | nil=>intro y hy; simp [ins] at hy; rw [hy]; exact hu
 | cons z r ih =>
  intro y hy;rw [ins] at hy
  split at hy
  ·rcases List.mem_cons.1 hy with rfl|hy
   ·exact hx y (by simp)
   ·exact ih (fun y hy=>hx y (by simp [hy])) y hy
  ·split at hy
   ·rcases List.mem_cons.1 hy with rfl|hy
    ·exact hu
    ·exact hx y hy
   ·rcases List.mem_cons.1 hy with rfl|hy
    ·exact(ltU_same (sameU_add u _)).2.2 hu
    ·exact hx y (by simp [hy])
theorem ins_srt {L:List TUse}(hL:L.Pairwise ltU) (u:TUse):(ins L u).Pairwise ltU:=by
 induction L with
 | nil=>simp [ins]
 | cons z r ih =>
  have hL':=hL;rw [List.pairwise_cons] at hL;rw [ins]
  split
  ·rename_i h1
   exact List.pairwise_cons.2 ⟨ins_lt hL.1 h1,ih hL.2⟩
  ·split
   ·rename_i h1 h2
    refine List.pairwise_cons.2 ⟨fun y hy=>?_,hL'⟩;rcases List.mem_cons.1 hy with rfl|hy
    ·exact h2
    ·exact ltU_trans h2 (hL.1 y hy)
   ·rename_i h1 h2
    have hs:sameU z u:=by rcases ltU_tri z u with g|g|g; exact absurd g h1; exact g; exact absurd g h2
    exact List.pairwise_cons.2 ⟨fun y hy=>(ltU_same (sameU_trans (sameU_add u _) (sameU_symm hs))).1.2 (hL.1 y hy),hL.2⟩
theorem ins_len (L:List TUse) (u:TUse):(ins L u).length<=L.length+1:=by
 induction L with
 | nil=>simp [ins]
 | cons z r ih =>
  rw [ins]
  split
  ·simpa using ih
  ·split<;>simp
def inR (u:TUse):Prop := -9223372036854775808<=u.FCount/\u.FCount<=9223372036854775807
theorem Canon.ins {l L:List TUse}(h:Canon l L){u:TUse}(hu:inR u):Canon (l++[u]) (Go.Proofs.ins L u):=by
 refine⟨ins_srt h.srt u,fun x=>?_⟩;rw [ins_mem h.srt];have hc:cnt (l++[u]) x=cnt l x+(if sameU x u then u.FCount else 0):=by rw [cnt_app,cnt_cons]; simp [cnt]
 rw [hc];constructor
 ·rintro (⟨hx,g⟩|⟨rfl,g⟩|⟨y,hy,g,rfl⟩)
  ·obtain⟨⟨y,hy,gy⟩,e⟩:=(h.mem x).1 hx;rw [if_neg g];exact⟨⟨y,by simp [hy],gy⟩,by rw [e,Int.add_zero]⟩
  ·refine⟨⟨x,by simp,sameU_refl x⟩, ?_⟩;rw [if_pos (sameU_refl x),cnt_none (l:=l),Int.zero_add,wr_id hu];intro y hy gy;exact g (addU x (wr (cnt l x))) ((h.mem _).2 ⟨⟨y,hy,sameU_trans (sameU_symm gy) (sameU_symm (sameU_add x _))⟩,by rw [cnt_same (sameU_add x _)]; rfl⟩) (sameU_add x _)
  ·obtain⟨⟨z,hz,gz⟩,e⟩:=(h.mem y).1 hy;refine⟨⟨u,by simp,sameU_symm (sameU_add u _)⟩, ?_⟩;rw [if_pos (sameU_add u _),cnt_same (sameU_add u _)];show wr (u.FCount+y.FCount)=_;rw [e,wr_add',cnt_same g,Int.add_comm]
 ·rintro ⟨⟨y,hy,gy⟩,e⟩;by_cases g:sameU x u
  ·rw [if_pos g] at e
   right
   by_cases hex:∃z∈L,sameU z u
   ·obtain⟨z,hz,gz⟩:=hex
    right
    refine⟨z,hz,gz, ?_⟩;obtain⟨_,e2⟩:=(h.mem z).1 hz;have e3:x.FCount=wr (u.FCount+z.FCount):=by rw [e,e2,wr_add',cnt_same (sameU_trans gz (sameU_symm g)),Int.add_comm]
    obtain⟨g1,g2,g3⟩:=g;cases x; cases u;simp only [addU,TUse.mk.injEq] at *;exact⟨g1,g2,g3,e3⟩
   ·left
    have hno:∀z∈L,¬sameU z u:=fun z hz gz=>hex ⟨z,hz,gz⟩;refine⟨?_,hno⟩;have hl:∀z∈l,¬sameU x z:=fun z hz gz=>hno (addU z (wr (cnt l z))) ((h.mem _).2 ⟨⟨z,hz,sameU_symm (sameU_add z _)⟩,by rw [cnt_same (sameU_add z _)]; rfl⟩) (sameU_trans (sameU_add z _) (sameU_trans (sameU_symm gz) g));rw [cnt_none hl,Int.zero_add,wr_id hu] at e;obtain⟨g1,g2,g3⟩:=g;cases x; cases u;simp only [TUse.mk.injEq] at *;exact⟨g1,g2,g3,e⟩
  ·rw [if_neg g,Int.add_zero] at e
   left
   refine⟨(h.mem x).2 ⟨?_,e⟩,g⟩;rcases List.mem_append.1 hy with hy|hy
   ·exact⟨y,hy,gy⟩
   ·simp at hy; subst hy; exact absurd (sameU_symm gy) g
noncomputable def sumU (l:List TUse):List TUse:=l.foldl ins []
theorem foldl_canon:∀(l p L:List TUse),Canon p L->(∀u∈l,inR u)->Canon (p++l) (l.foldl ins L)
 | [],p,L,h,_=>by simpa using h
 | u::r,p,L,h,hr=>by
  have:=foldl_canon r (p++[u]) (ins L u) (h.ins (hr u (by simp))) fun x hx=>hr x (by simp [hx])
  simpa using this
theorem sumU_canon {l:List TUse}(h:∀u∈l,inR u):Canon l (sumU l):=by have:=foldl_canon l [] [] Canon.nil h; simpa [sumU] using this
end Go.Proofs

namespace Go.Proofs
open Go Go.Ab
def bigU:Nat:=2400000000000
theorem appU {s r:Sl TUse}(h:s.l.length+r.l.length<=bigU):appC 56 s r=some ⟨s.nl&&r.l.isEmpty,s.l++r.l⟩:=by
 unfold bigU at h;unfold appC; rw [if_pos];unfold maxN;omega
def useU (a b c:Bs):TUse:=⟨a,b,c,1⟩
def inDef (d:TDoc) (name:Bs):TDef:=bif Z83_q name then TDef.zero else(fnd d.FDefs.l name).1
def vals (d:TDoc):Nat->TRef->Z9->List TUse
 | 0,_,_=>[]
 | n+1,t,v =>
  bif decide (v.FKind=5) then(bif liW (barS t.FWraps).l then v.FItems.l.flatMap (vals d n (innerT t)) else [])
  else bif decide (v.FKind=4)&&decide ((inDef d t.FName).FKind=4) then [useU t.FName v.FText []]
  else bif decide (v.FKind=6)&&decide ((inDef d t.FName).FKind=5) then
   (v.FKeys.l.zip v.FItems.l).flatMap fun p=>bif (fndI (inDef d t.FName).FInputs.l p.1).2 then vals d n (fndI (inDef d t.FName).FInputs.l p.1).1.FType p.2 else []
  else []
theorem item_lt {v x:Z9}(h:x∈v.FItems.l):x.sz<v.sz:=by
 have:=Sl.mem_le (f:=Z9.sz) h; have:=v.sz_def; omega
theorem flatMap_le' {α β:Type}{f:α->List β}{g:α->Nat}{l:List α}(h:∀x∈l,(f x).length<=g x):(l.flatMap f).length<=(l.map g).sum:=by
 induction l with
 | nil=>simp
 | cons a r ih =>
  have:=h a (by simp);have:=ih fun x hx=>h x (by simp [hx]);rw [List.flatMap_cons,List.length_append,List.map_cons,List.sum_cons]; omega
theorem zip_sum {α β:Type}{g:β->Nat}:∀{k:List α}{l:List β},((k.zip l).map fun p=>g p.2).sum<=(l.map g).sum
 | [],l=>by simp
 | _::k,[]=>by simp
 | _::k,b::l=>by have:=zip_sum (g:=g) (k:=k) (l:=l); simp; omega
theorem vals_len (d:TDoc):∀(n:Nat) (t:TRef) (v:Z9),(vals d n t v).length<=v.sz
 | 0,_,v=>by simp [vals]
 | n+1,t,v=>by
  have hv:=v.sz_def;have hs:(v.FItems.l.map Z9.sz).sum+1=Sl.sz Z9.sz v.FItems:=by unfold Sl.sz; omega
  rw [vals];cases decide (v.FKind=5)
  ·cases decide (v.FKind=4)&&decide ((inDef d t.FName).FKind=4)
   ·cases decide (v.FKind=6)&&decide ((inDef d t.FName).FKind=5)
    ·simp
    ·simp only [cond_true,cond_false];have h1:=flatMap_le' (l:=v.FKeys.l.zip v.FItems.l) (f:=fun p=>bif (fndI (inDef d t.FName).FInputs.l p.1).2 then vals d n (fndI (inDef d t.FName).FInputs.l p.1).1.FType p.2 else []) (g:=fun p=>p.2.sz) (fun p _=>by
      try dsimp only
      cases (fndI (inDef d t.FName).FInputs.l p.1).2
      ·simp
      ·exact vals_len d n _ _)
     have h2:=zip_sum (g:=Z9.sz) (k:=v.FKeys.l) (l:=v.FItems.l);omega
   ·simp; omega
  ·simp only [cond_true];cases liW (barS t.FWraps).l
   ·simp
   ·simp only [cond_true];have h1:=flatMap_le' (l:=v.FItems.l) (f:=vals d n (innerT t)) (g:=Z9.sz) (fun x _=>vals_len d n _ x);omega
theorem flatMap_eq' {α β:Type}{f g:α->List β}{l:List α}(h:∀x∈l,f x=g x):l.flatMap f=l.flatMap g:=by
 induction l with
 | nil=>rfl
 | cons a r ih=>rw [List.flatMap_cons,List.flatMap_cons,h a (by simp),ih fun x hx=>h x (by simp [hx])]
theorem zip_mem {α β:Type}{k:List α}{l:List β}{p:α×β}(h:p∈k.zip l):p.2∈l:=by
 obtain⟨a,b⟩:=p; exact(List.of_mem_zip h).2
theorem vals_fuel (d:TDoc):∀(n m:Nat) (t:TRef) (v:Z9),v.sz<=n->v.sz<=m->vals d n t v=vals d m t v
 | 0,_,_,v,h,_=>by have:=v.pos; omega
 | _+1,0,_,v,_,h=>by have:=v.pos; omega
 | n+1,m+1,t,v,h,h'=>by
  rw [vals,vals];rw [flatMap_eq' (l:=v.FItems.l) (f:=vals d n (innerT t)) (g:=vals d m (innerT t)) fun x hx=>vals_fuel d n m _ x (by have:=item_lt hx; omega) (by have:=item_lt hx; omega)];rw [flatMap_eq' (l:=v.FKeys.l.zip v.FItems.l) (g:=fun p=>bif (fndI (inDef d t.FName).FInputs.l p.1).2 then vals d m (fndI (inDef d t.FName).FInputs.l p.1).1.FType p.2 else []) fun p hp=>by
   have hx:=zip_mem hp;try dsimp only
   rw [vals_fuel d n m _ p.2 (by have:=item_lt hx; omega) (by have:=item_lt hx; omega)]]
noncomputable def valU (d:TDoc) (t:TRef) (v:Z9):List TUse:=vals d v.sz t v
theorem vals_eq (d:TDoc){n:Nat}(t:TRef) (v:Z9) (h:v.sz<=n):vals d n t v=valU d t v:=vals_fuel d _ _ t v h (Nat.le_refl _)

def Adds (o:Option Z10) (r:Z10) (L:List TUse):Prop:=∃nl,o=some ⟨r.Fd,r.Fq,⟨nl,r.Fout.l++L⟩⟩/\(nl=true->r.Fout.nl=true/\L=[])
theorem Adds.nil (r:Z10):Adds (some r) r []:=⟨r.Fout.nl,by simp,fun h=>⟨h,rfl⟩⟩
theorem Adds.bind {o:Option Z10}{r:Z10}{L M:List TUse}{k:Z10->Option Z10}(h:Adds o r L) (h2:∀nl,Adds (k ⟨r.Fd,r.Fq,⟨nl,r.Fout.l++L⟩⟩) ⟨r.Fd,r.Fq,⟨nl,r.Fout.l++L⟩⟩ M):Adds (o.bind k) r (L++M):=by
 obtain⟨nl,e,g⟩:=h;obtain⟨nl2,e2,g2⟩:=h2 nl;exact⟨nl2,by rw [e,Option.bind_some,e2]; simp,fun h=>by obtain⟨h1,h2⟩:=g2 h; obtain⟨h3,h4⟩:=g h1; exact⟨h3,by rw [h4,h2]; rfl⟩⟩
theorem Adds.id {o:Option Z10}{r:Z10}{L:List TUse}(h:Adds o r L):Adds (o.bind fun x=>some x) r L:=by
 have:=Adds.bind (k:=fun x=>some x) h (fun nl=>Adds.nil _)
 simpa using this
theorem use_adds (r:Z10) (a b c:Bs) (h:r.Fout.l.length+1<=bigU):Adds (Z128 r a b c) r [useU a b c]:=by
 rw [Z128_eq];unfold Z128_q;rw [appU (by simpa using h)];exact⟨_,rfl,fun h=>by simp at h⟩
theorem scalar_zero {d:TDoc}{s:Bs}(h:Z83_q s=true):inDef d s=TDef.zero:=by unfold inDef; rw [h]; rfl
theorem scalar_def {d:TDoc}{s:Bs}(h:Z83_q s=false):inDef d s=(fnd d.FDefs.l s).1:=by unfold inDef; rw [h]; rfl
theorem list_loop {d:TDoc}{v:Z9}{t:TRef}{b:Bool}(k:Z10->Z9->TRef->Option Z10) (hk:∀x∈v.FItems.l,∀r:Z10,r.Fd=d->r.Fout.l.length+x.sz<=bigU->Adds (k r x t) r (valU d t x)) :
  ∀(m:Nat) (i:Nat) (r:Z10),v.FItems.l.length<i+m->0<m->r.Fd=d->r.Fout.l.length+((v.FItems.l.drop i).map Z9.sz).sum<=bigU ->
   Adds (Z129_l13 v (t,b) k m i r) r ((v.FItems.l.drop i).flatMap (valU d t))
 | 0,_,_,_,h,_,_=>by omega
 | m+1,i,r,hm,_,hd,hl=>by
  rw [Z129_l13];by_cases hi:i<v.FItems.l.length
  ·have hx:=List.getElem?_eq_getElem hi;have hdrop:=List.drop_eq_getElem_cons hi;rw [hdrop] at hl ⊢;simp only [List.map_cons,List.sum_cons] at hl;rw [decide_eq_true (by omega),cond_true,hx,Option.bind_some,List.flatMap_cons];refine Adds.bind (hk _ (List.getElem_mem hi) r hd (by omega)) fun nl=>?_;refine list_loop k hk m (i+1) _ (by omega) (by omega) hd ?_;have:=vals_len d v.FItems.l[i].sz t v.FItems.l[i]
   simp only [List.length_append];unfold valU;omega
  ·rw [decide_eq_false (by omega),cond_false,List.drop_of_length_le (by omega)];exact Adds.nil r
theorem zip_drop {α β:Type}{k:List α}{l:List β}{i:Nat}(h1:i<k.length) (h2:i<l.length):(k.zip l).drop i=(k[i],l[i])::(k.zip l).drop (i+1):=by
 have:i<(k.zip l).length:=by simp; omega
 rw [List.drop_eq_getElem_cons this]; simp
theorem addC_nat {i:Nat}(h:i<=1048576):addC (i:Int) 1=some ((i+1:Nat):Int):=by rw [addC_ok (by omega)]; congr 1
theorem idxC_nat {α:Type}{l:List α}{i:Nat}(h:i<l.length):idxC l (i:Int)=some l[i]:=by unfold idxC; rw [if_pos (by omega),Int.toNat_natCast,List.getElem?_eq_getElem h]
theorem min_nat {a b c:Nat}(h:c=min b a):(if ((a:Nat):Int)<((b:Nat):Int) then((a:Nat):Int) else((b:Nat):Int))=((c:Nat):Int):=by split<;>omega

theorem obj_loop {d:TDoc}{v:Z9}{x:TDef×Bool}(k:Z10->Z9->TRef->Option Z10)
  (hk:∀t:TRef,∀y∈v.FItems.l,SOk t.FWraps->∀r:Z10,r.Fd=d->r.Fout.l.length+y.sz<=bigU->Adds (k r y t) r (valU d t y)) (hx:∀i∈x.1.FInputs.l,SOk i.FType.FWraps) :
  ∀(m:Nat) (i:Nat) (r:Z10),(v.FKeys.l.zip v.FItems.l).length<i+m->i<=(v.FKeys.l.zip v.FItems.l).length->0<m->v.FItems.l.length<=1048576->v.FKeys.l.length<=1048576->r.Fd=d ->
   r.Fout.l.length+(((v.FKeys.l.zip v.FItems.l).drop i).map fun p=>p.2.sz).sum<=bigU ->
   Adds (Z129_l35 v x k m (i:Int) r) r (((v.FKeys.l.zip v.FItems.l).drop i).flatMap fun p=>bif (fndI x.1.FInputs.l p.1).2 then valU d (fndI x.1.FInputs.l p.1).1.FType p.2 else []):=by
 intro m;induction m with
 | zero=>intro i r _ _ h; omega
 | succ m ih =>
  intro i r hm hi0 _ hb1 hb2 hd hl;rw [Z129_l35];have hlen:(v.FKeys.l.zip v.FItems.l).length=min v.FKeys.l.length v.FItems.l.length:=List.length_zip;have hmin:=min_nat (a:=v.FItems.l.length) (b:=v.FKeys.l.length) hlen;rw [hmin];by_cases hi:i<(v.FKeys.l.zip v.FItems.l).length
  ·have h1:i<v.FKeys.l.length:=by omega
   have h2:i<v.FItems.l.length:=by omega
   have hdrop:=zip_drop h1 h2;rw [hdrop] at hl ⊢;simp only [List.map_cons,List.sum_cons] at hl;have e1:=idxC_nat h1;have e2:=idxC_nat h2;have e3:addC (i:Int) 1=some ((i+1:Nat):Int):=addC_nat (by omega);rw [decide_eq_true (by omega),cond_true,e1,Option.bind_some,Z79_eq,Option.bind_some,inputOf_eq,List.flatMap_cons];try dsimp only
   have hrest:∀(r':Z10),r'.Fd=d->r'.Fout.l.length+(((v.FKeys.l.zip v.FItems.l).drop (i+1)).map fun p=>p.2.sz).sum<=bigU ->
     Adds (Z129_j41 (i:Int) (Z129_l35 v x k m) r') r' (((v.FKeys.l.zip v.FItems.l).drop (i+1)).flatMap fun p=>bif (fndI x.1.FInputs.l p.1).2 then valU d (fndI x.1.FInputs.l p.1).1.FType p.2 else []):=fun r' hd' hl'=>by
    unfold Z129_j41;rw [e3,Option.bind_some];exact ih (i+1) r' (by omega) (by omega) (by omega) hb1 hb2 hd' hl'
   cases hf:(fndI x.1.FInputs.l v.FKeys.l[i]).2
   ·rw [cond_false,cond_false,List.nil_append];exact hrest r hd (by omega)
   ·rw [cond_true,cond_true,e2,Option.bind_some];refine Adds.bind (hk _ _ (List.getElem_mem h2) (inputOk hx _) r hd (by omega)) fun nl=>?_;refine hrest _ hd ?_;have:=vals_len d v.FItems.l[i].sz (fndI x.1.FInputs.l v.FKeys.l[i]).1.FType v.FItems.l[i];simp only [List.length_append];unfold valU;omega
  ·rw [decide_eq_false (by omega),cond_false,List.drop_of_length_le (by omega)];exact Adds.nil r
theorem value_adds {d:TDoc}(hd:DefsOk d):∀(n:Nat) (v:Z9) (t:TRef) (r:Z10),v.sz<=n->v.sz<=1048576->SOk t.FWraps->r.Fd=d->r.Fout.l.length+v.sz<=bigU->Adds (Z129_n n r v t) r (valU d t v)
 | 0,v,_,_,h,_,_,_,_=>by have:=v.pos; omega
 | n+1,v,t,r,hn,hb,ht,hr,hl=>by
  have hv:=v.sz_def;have hs:(v.FItems.l.map Z9.sz).sum+1=Sl.sz Z9.sz v.FItems:=by unfold Sl.sz; omega
  have hil:v.FItems.l.length<=1048576:=by have:=Sl.len_le (f:=Z9.sz) v.FItems Z9.pos; omega
  have hkl:v.FKeys.l.length<=1048576:=by have:=Sl.len_le (f:=Bs.sz) v.FKeys Bs.sz_pos; omega
  have ih:∀t:TRef,∀y∈v.FItems.l,SOk t.FWraps->∀r:Z10,r.Fd=d->r.Fout.l.length+y.sz<=bigU->Adds (Z129_n n r y t) r (valU d t y):=fun t y hy ht r hr hl=>by
   have:=item_lt hy;exact value_adds hd n y t r (by omega) (by omega) ht hr hl
  have hV:valU d t v=vals d (v.sz-1+1) t v:=(vals_eq d t v (by have:=v.pos; omega)).symm;rw [hV,vals,Z129_n];have hitems:∀t:TRef,v.FItems.l.flatMap (vals d (v.sz-1) t)=v.FItems.l.flatMap (valU d t):=fun t=>flatMap_eq' fun x hx=>vals_eq d t x (by have:=item_lt hx; omega);have hpairs:(v.FKeys.l.zip v.FItems.l).flatMap (fun p=>bif (fndI (inDef d t.FName).FInputs.l p.1).2 then vals d (v.sz-1) (fndI (inDef d t.FName).FInputs.l p.1).1.FType p.2 else []) =
    (v.FKeys.l.zip v.FItems.l).flatMap (fun p=>bif (fndI (inDef d t.FName).FInputs.l p.1).2 then valU d (fndI (inDef d t.FName).FInputs.l p.1).1.FType p.2 else []):=flatMap_eq' fun p hp=>by
   have:=item_lt (zip_mem hp);try dsimp only
   rw [vals_eq d _ p.2 (by omega)]
  rw [hitems,hpairs];cases h5:decide (v.FKind=5)
  ·simp only [cond_false];rw [Z78_eq,Option.bind_some,hr,find_eq,Z83_eq];cases hsc:Z83_q t.FName
   ·rw [scalar_def hsc];cases h4:decide (v.FKind=4)&&decide ((fnd d.FDefs.l t.FName).1.FKind=4)
    ·simp only [guardO,Bool.false_eq_true,if_false,Bool.false_and,cond_false];cases h6:decide (v.FKind=6)&&decide ((fnd d.FDefs.l t.FName).1.FKind=5)
     ·simp only [Bool.false_eq_true,if_false,Bool.false_and,cond_false]; exact Adds.nil r
     ·simp only [if_true,Option.bind_some,Bool.not_false,Bool.and_true,cond_true];have hzl:(v.FKeys.l.zip v.FItems.l).length<=1048576:=by rw [List.length_zip]; omega
      have hF0:∀z:Nat,z<=1048576->z<0+F0:=fun z hz=>by rw [F0_eq]; omega
      have hl2:=zip_sum (g:=Z9.sz) (k:=v.FKeys.l) (l:=v.FItems.l);have:=obj_loop (d:=d) (v:=v) (x:=fnd d.FDefs.l t.FName) (Z129_n n) ih (find_ok hd t.FName).2.2.2 F0 0 r (hF0 _ hzl) (Nat.zero_le _) (by rw [F0_eq]; omega) hil hkl hr (by rw [List.drop_zero]; omega)
      simpa using this
    ·simp only [guardO,if_true,Option.bind_some,Bool.not_false,Bool.and_true,cond_true];exact(use_adds r _ _ _ (by have:=v.pos; omega)).id
   ·rw [scalar_zero hsc];have z4:decide ((TDef.zero).FKind=4)=false:=by decide
    have z5:decide ((TDef.zero).FKind=5)=false:=by decide
    rw [z4,z5];simp only [Bool.and_false,cond_false];cases h4:decide (v.FKind=4)&&decide ((fnd d.FDefs.l t.FName).1.FKind=4)<;>cases h6:decide (v.FKind=6)&&decide ((fnd d.FDefs.l t.FName).1.FKind=5)<;>simp [guardO]<;>exact Adds.nil r
  ·simp only [cond_true];rw [Z114_eq,inner_eq ht,Option.bind_some];cases hli:liW (barS t.FWraps).l
   ·exact Adds.nil r
   ·simp only [cond_true];have:=list_loop (d:=d) (v:=v) (t:=innerT t) (b:=true) (Z129_n n) (fun x hx r hr hl=>ih _ x hx (innerT_ok ht) r hr hl) (v.FItems.l.length+1) 0 r (by omega) (by omega) hr (by rw [List.drop_zero]; omega)
    simpa using this
end Go.Proofs



namespace Go.Proofs
open Go Go.Ab
attribute [local instance] Classical.propDecidable
theorem ins_last {x u:TUse}:∀{p:List TUse},(∀y∈p,ltU y u)->ins (p++[x]) u=p++ins [x] u
 | [],_=>rfl
 | y::p,h=>by
  rw [List.cons_append,ins,if_pos (h y (by simp)),ins_last fun z hz=>h z (by simp [hz])]; rfl
theorem usort_step (o:Sl TUse) (u:TUse) (r:List TUse) (hs:o.l.Pairwise ltU) (hu:∀y∈o.l,¬ltU u y) (hl:o.l.length+1<=bigU):∃nl,Z123_q12 (u::r) o=Z123_q12 r ⟨nl,ins o.l u⟩:=by
 rcases List.eq_nil_or_concat o.l with h0|⟨p,x,h0⟩
 ·refine⟨o.nl&&List.isEmpty [u], ?_⟩;rw [Z123_q12];simp only [Ab.on,h0,List.length_nil,guardO];simp only [Int.natCast_zero,Int.lt_irrefl,decide_false,Bool.false_and,Bool.false_eq_true,if_false,cond_false];rw [appU (by simp [h0]; omega)];simp [h0,ins]
 ·rw [List.concat_eq_append] at h0;have hxm:x∈o.l:=by rw [h0]; simp
  have hp:∀y∈p,ltU y u:=fun y hy=>by
   rw [h0,List.pairwise_append] at hs;have h1:=hs.2.2 y hy x (by simp);rcases ltU_tri x u with g|g|g
   ·exact ltU_trans h1 g
   ·exact(ltU_same g).2.1 h1
   ·exact absurd g (hu x hxm)
  have hins:ins o.l u=p++ins [x] u:=by rw [h0,ins_last hp]
  have hlen:o.l.length=p.length+1:=by rw [h0]; simp
  have hbig:bigU=2400000000000:=rfl;have hpos:decide ((0:Int)<(o.l.length:Int))=true:=decide_eq_true (by omega);have hsub:subC (o.l.length:Int) 1=some ((p.length:Nat):Int):=by rw [subC_ok (by omega)]; congr 1; omega
  have hidx:idxC o.l ((p.length:Nat):Int)=some x:=by
   unfold idxC; rw [if_pos (by omega),Int.toNat_natCast,h0]; simp
  rw [Z123_q12];simp only [Ab.on,hpos,Bool.true_and,guardO,if_true,hsub,Option.bind_some,hidx];by_cases c1:x.FType=u.FType
  ·by_cases c2:x.FField=u.FField
   ·by_cases c3:x.FArg=u.FArg
    ·have hsm:sameU x u:=⟨c1,c2,c3⟩;refine⟨o.nl, ?_⟩;simp only [c1,c2,c3,beq_self_eq_true,if_true,hsub,Option.bind_some,hidx,Bool.and_true,Bool.true_and,cond_true]
     congr 1
     rw [hins,ins,if_neg (sameU_not hsm),if_neg (sameU_not (sameU_symm hsm))];unfold Sl.setL;rw [Int.toNat_natCast,h0];simp [addU,c1,c2,c3,Int.add_comm]
    ·refine⟨o.nl&&List.isEmpty [u], ?_⟩;have hb:(x.FArg==u.FArg)=false:=beq_eq_false_iff_ne.2 c3;have hnl:¬sameU x u:=fun g=>c3 g.2.2;have hxu:ltU x u:=by rcases ltU_tri x u with g|g|g; exact g; exact absurd g hnl; exact absurd g (hu x hxm)
     simp only [c1,c2,beq_self_eq_true,if_true,hsub,Option.bind_some,hidx,Bool.and_true,Bool.true_and,hb,cond_false];rw [appU (by simp; omega)];simp only [Option.bind_some];rw [hins,ins,if_pos hxu,h0]; simp [ins]
   ·refine⟨o.nl&&List.isEmpty [u], ?_⟩;have hb:(x.FField==u.FField)=false:=beq_eq_false_iff_ne.2 c2;have hnl:¬sameU x u:=fun g=>c2 g.2.1;have hxu:ltU x u:=by rcases ltU_tri x u with g|g|g; exact g; exact absurd g hnl; exact absurd g (hu x hxm)
    simp only [c1,beq_self_eq_true,if_true,hsub,Option.bind_some,hidx,Bool.and_true,Bool.true_and,hb,Bool.false_eq_true,if_false,Bool.false_and,cond_false];rw [appU (by simp; omega)];simp only [Option.bind_some];rw [hins,ins,if_pos hxu,h0]; simp [ins]
  ·refine⟨o.nl&&List.isEmpty [u], ?_⟩;have hb:(x.FType==u.FType)=false:=beq_eq_false_iff_ne.2 c1;have hnl:¬sameU x u:=fun g=>c1 g.1;have hxu:ltU x u:=by rcases ltU_tri x u with g|g|g; exact g; exact absurd g hnl; exact absurd g (hu x hxm)
   simp only [hb,Bool.false_eq_true,if_false,Bool.false_and,cond_false];rw [appU (by simp; omega)];simp only [Option.bind_some];rw [hins,ins,if_pos hxu,h0]; simp [ins]
theorem usort_loop:∀(r p:List TUse) (o:Sl TUse),(p++r).Pairwise (fun x y=>¬ltU y x)->Canon p o.l->(∀u∈r,inR u)->o.l.length+r.length<=bigU->∃nl L,Z123_q12 r o=some ⟨nl,L⟩/\Canon (p++r) L
 | [],p,o,_,hc,_,_=>⟨o.nl,o.l,by simp [Z123_q12],by simpa using hc⟩
 | u::r,p,o,hs,hc,hr,hl=>by
  simp only [List.length_cons] at hl;have hs':=hs;rw [List.pairwise_append] at hs;obtain⟨nl,e⟩:=usort_step o u r hc.srt (fun y hy g=>by
   obtain⟨⟨z,hz,gz⟩,_⟩:=(hc.mem y).1 hy;exact hs.2.2 z hz u (by simp) ((ltU_same gz).2.2 g)) (by omega)
  have:=ins_len o.l u;obtain⟨nl2,L,e2,hc2⟩:=usort_loop r (p++[u]) ⟨nl,ins o.l u⟩ (by simpa using hs') (hc.ins (hr u (by simp))) (fun x hx=>hr x (by simp [hx])) (by simp only; omega);exact⟨nl2,L,by rw [e,e2],by simpa using hc2⟩
def good (l:List TUse):Prop:=∀u∈l,inR u/\okT TUse.c u=true
theorem usort_eq (a:Sl TUse) (hl:a.l.length<=bigU) (hnl:a.nl=true->a.l=[]) (hg:good a.l):∃nl,Z123_q a=some ⟨nl,sumU a.l⟩:=by
 have hclone:∃nl,Z94_q a=some ⟨nl,a.l⟩:=by
  unfold Z94_q;cases h:a.nl
  ·rw [cond_false,appU (by simp; omega)]; exact⟨_,by simp; rfl⟩
  ·rw [cond_true,hnl h]; exact⟨true,rfl⟩
 obtain⟨nl,e⟩:=hclone;have hp:=sortT_perm TUse.c Z124_swo a.l;have hst:=sortT_sorted TUse.c Z124_swo a.l;have hgs:good (sortT TUse.c (cmpO Z124) a.l):=fun u hu=>hg u (hp.mem_iff.1 hu);have hst2:(sortT TUse.c (cmpO Z124) a.l).Pairwise fun x y=>¬ltU y x:=by
  rw [List.pairwise_iff_getElem] at hst ⊢;intro i j hi hj hij;have:=hst i j hi hj hij;unfold cfT at this;rw [normT_ok _ (hgs _ (List.getElem_mem hj)).2,normT_ok _ (hgs _ (List.getElem_mem hi)).2,Z124_cmp,cmpU_lt] at this;exact this
 obtain⟨nl2,L,e2,hc⟩:=usort_loop (sortT TUse.c (cmpO Z124) a.l) [] Sl.nil (by simpa using hst2) Canon.nil (fun u hu=>(hgs u hu).1) (by rw [hp.length_eq]; simp [Sl.nil]; omega);refine⟨nl2, ?_⟩;unfold Z123_q;rw [e];simp only [Option.bind_some,sortL,e2,Ab.on];rw [List.nil_append] at hc;rw [(hc.perm hp).unique (sumU_canon fun u hu=>(hg u hu).1)]
end Go.Proofs

namespace Go.Proofs
open Go Go.Ab
theorem valU_len (d:TDoc) (t:TRef) (v:Z9):(valU d t v).length<=v.sz:=vals_len d _ t v
noncomputable def argsU (d:TDoc) (on_ name:Bs) (defs:List Z6) (l:List TArg):List TUse :=
 l.flatMap fun a=>bif (fndI defs a.FName).2 then useU on_ name a.FName::valU d (fndI defs a.FName).1.FType a.FValue else []
noncomputable def fieldU (d:TDoc) (on_:Bs) (s:TSel):List TUse:=useU on_ s.FName []::argsU d on_ s.FName (fndF (fnd d.FDefs.l on_).1.FFields.l s.FName).1.FArgs.l s.FArgs.l
noncomputable def selsU (d:TDoc):Nat->Bs->List TSel->List TUse
 | 0,_,_=>[]
 | n+1,on_,l=>l.flatMap fun s =>
  bif decide (s.FKind=2) then []
  else bif decide (s.FKind=3) then
   (bif !(s.FOn==[])&&Z76_q d s.FOn then [useU s.FOn [] []] else [])++selsU d n (bif !(s.FOn==[]) then s.FOn else on_) s.FSels.l
  else bif (typeX d on_ s.FName).2 then fieldU d on_ s++selsU d n (typeX d on_ s.FName).1.FName s.FSels.l
  else selsU d n [] s.FSels.l
theorem selsU_cons (d:TDoc) (n:Nat) (on_:Bs) (s:TSel) (l:List TSel):selsU d (n+1) on_ (s::l) =
  (bif decide (s.FKind=2) then []
  else bif decide (s.FKind=3) then
   (bif !(s.FOn==[])&&Z76_q d s.FOn then [useU s.FOn [] []] else [])++selsU d n (bif !(s.FOn==[]) then s.FOn else on_) s.FSels.l
  else bif (typeX d on_ s.FName).2 then fieldU d on_ s++selsU d n (typeX d on_ s.FName).1.FName s.FSels.l
  else selsU d n [] s.FSels.l)++selsU d (n+1) on_ l:=by
 rw [selsU,selsU]; exact List.flatMap_cons
theorem argsU_len (d:TDoc) (a b:Bs) (defs:List Z6) (l:List TArg):(argsU d a b defs l).length<=(l.map TArg.sz).sum:=by
 refine flatMap_le' fun x _=>?_;have h1:=x.sz_def; have h2:=Bs.sz_pos x.FName;cases (fndI defs x.FName).2
 ·simp
 ·have:=valU_len d (fndI defs x.FName).1.FType x.FValue;simp only [cond_true,List.length_cons]; omega
theorem sel_parts (s:TSel):(s.FArgs.l.map TArg.sz).sum+(s.FSels.l.map TSel.sz).sum+4<=s.sz:=by
 have h:=s.sz_def; have h1:=Bs.sz_pos s.FAlias; have h2:=Bs.sz_pos s.FName;have h3:(s.FArgs.l.map TArg.sz).sum+1=Sl.sz TArg.sz s.FArgs:=by unfold Sl.sz; omega
 have h4:(s.FSels.l.map TSel.sz).sum+1=Sl.sz TSel.sz s.FSels:=by unfold Sl.sz; omega
 omega
theorem fieldU_len (d:TDoc) (a:Bs) (s:TSel):(fieldU d a s).length<=(s.FArgs.l.map TArg.sz).sum+1:=by
 have:=argsU_len d a s.FName (fndF (fnd d.FDefs.l a).1.FFields.l s.FName).1.FArgs.l s.FArgs.l;unfold fieldU; simp only [List.length_cons]; omega
theorem selsU_len (d:TDoc):∀(n:Nat) (on_:Bs) (l:List TSel),(selsU d n on_ l).length<=(l.map TSel.sz).sum
 | 0,_,_=>by simp [selsU]
 | n+1,on_,l=>by
  rw [selsU];refine flatMap_le' fun s _=>?_;have h:=sel_parts s;cases decide (s.FKind=2)
  ·cases decide (s.FKind=3)
   ·cases (typeX d on_ s.FName).2
    ·have:=selsU_len d n [] s.FSels.l;simp only [cond_false]; omega
    ·have:=selsU_len d n (typeX d on_ s.FName).1.FName s.FSels.l;have:=fieldU_len d on_ s;simp only [cond_false,cond_true,List.length_append]; omega
   ·have:=selsU_len d n (bif !(s.FOn==[]) then s.FOn else on_) s.FSels.l;simp only [cond_false,cond_true,List.length_append];cases !(s.FOn==[])&&Z76_q d s.FOn<;>simp only [cond_true,cond_false,List.length_nil,List.length_cons]<;>omega
  ·simp

theorem value_top {d:TDoc}(hd:DefsOk d){v:Z9}{t:TRef}{r:Z10}(hb:v.sz<=1048576) (ht:SOk t.FWraps) (hr:r.Fd=d) (hl:r.Fout.l.length+v.sz<=bigU):Adds (Z129 r v t) r (valU d t v) :=
 value_adds hd F0 v t r (Nat.le_trans hb (by rw [F0_eq]; decide)) hb ht hr hl
theorem cond_adds {d:TDoc}{r:Z10}(hr:r.Fd=d) (a:Bs) (h:r.Fout.l.length+1<=bigU):Adds (Z125_q r a) r (bif Z76_q d a then [useU a [] []] else []):=by
 unfold Z125_q;simp only [Ab.on,hr];cases Z76_q d a
 ·exact Adds.nil r
 ·simp only [cond_true]; rw [<- Z128_eq]; exact(use_adds r _ _ _ h).id
theorem args_adds {d:TDoc}(hd:DefsOk d) (s:TSel) (a:Bs) (x:Z4×Bool) (hx:∀i∈x.1.FArgs.l,SOk i.FType.FWraps):∀(l:List TArg) (r:Z10),(∀y∈l,y.sz<=1048576)->r.Fd=d->r.Fout.l.length+(l.map TArg.sz).sum<=bigU ->
  Adds (Z126_q19 s a x l r) r (argsU d a s.FName x.1.FArgs.l l)
 | [],r,_,_,_=>by rw [Z126_q19]; exact Adds.nil r
 | y::l,r,hy,hr,hl=>by
  simp only [List.map_cons,List.sum_cons] at hl;have h1:=y.sz_def; have h2:=Bs.sz_pos y.FName;have h3:=hy y (by simp);rw [Z126_q19];simp only [Ab.on,inputOf_eq];show Adds _ r ((bif (fndI x.1.FArgs.l y.FName).2 then useU a s.FName y.FName::valU d (fndI x.1.FArgs.l y.FName).1.FType y.FValue else [])++argsU d a s.FName x.1.FArgs.l l);have hV:=valU_len d (fndI x.1.FArgs.l y.FName).1.FType y.FValue;cases hf:(fndI x.1.FArgs.l y.FName).2
  ·rw [cond_false,cond_false,Option.bind_some,List.nil_append];exact args_adds hd s a x hx l r (fun z hz=>hy z (by simp [hz])) hr (by omega)
  ·rw [cond_true,cond_true];refine Adds.bind (L:=useU a s.FName y.FName::valU d (fndI x.1.FArgs.l y.FName).1.FType y.FValue) ?_ fun nl=>args_adds hd s a x hx l _ (fun z hz=>hy z (by simp [hz])) hr (by simp only [List.length_append,List.length_cons]; omega);rw [<- Z128_eq];show Adds _ r ([useU a s.FName y.FName]++valU d (fndI x.1.FArgs.l y.FName).1.FType y.FValue);refine Adds.bind (use_adds r _ _ _ (by omega)) fun nl=>?_
   have hvs:y.FValue.sz<=1048576:=by omega
   have hll:(r.Fout.l++[useU a s.FName y.FName]).length+y.FValue.sz<=bigU:=by rw [List.length_append,List.length_singleton]; omega
   have hv:=value_top (r:=⟨r.Fd,r.Fq,⟨nl,r.Fout.l++[useU a s.FName y.FName]⟩⟩) hd hvs (inputOk hx y.FName) hr hll;exact hv.id
def AddsN (o:Option (Bs×Z10)) (r:Z10) (name:Bs) (L:List TUse):Prop:=∃nl,o=some (name,⟨r.Fd,r.Fq,⟨nl,r.Fout.l++L⟩⟩)/\(nl=true->r.Fout.nl=true/\L=[])
theorem field_adds {d:TDoc}(hd:DefsOk d){s:TSel}{a:Bs}{r:Z10}(hs:s.sz<=1048576) (hr:r.Fd=d) (hl:r.Fout.l.length+s.sz<=bigU) :
  AddsN (Z126_q r s a) r (bif (typeX d a s.FName).2 then(typeX d a s.FName).1.FName else []) (bif (typeX d a s.FName).2 then fieldU d a s else []):=by
 have hp:=sel_parts s;unfold Z126_q;rw [hr,type_eq hd,Option.bind_some];cases ht:(typeX d a s.FName).2
 ·exact⟨r.Fout.nl,by simp only [Bool.not_false,cond_true,cond_false,List.append_nil],fun h=>⟨h,rfl⟩⟩
 ·simp only [Bool.not_true,cond_false,cond_true];rw [<- Z128_eq];obtain⟨nl,e,g⟩:=use_adds r a s.FName [] (by omega);rw [e,Option.bind_some];simp only [Ab.on,hr,find_eq,fieldOf_eq];obtain⟨nl2,e2,g2⟩:=args_adds hd s a (fndF (fnd d.FDefs.l a).1.FFields.l s.FName) (fieldOk (find_ok hd a).2.2.1 s.FName).2.2 s.FArgs.l ⟨d,r.Fq,⟨nl,r.Fout.l++[useU a s.FName []]⟩⟩
   (fun y hy=>by
    have h5:(s.FArgs.l.map TArg.sz).sum+1=Sl.sz TArg.sz s.FArgs:=by unfold Sl.sz; omega
    have:=Sl.mem_le (f:=TArg.sz) hy; omega) rfl (by simp only [List.length_append,List.length_cons,List.length_nil]; omega)
  rw [e2];exact⟨nl2,by simp [fieldU,hr],fun h=>by have:=g (g2 h).1; cases this.2⟩
theorem sels_loop {d:TDoc}(hd:DefsOk d) (n:Nat) (on_:Bs) (ih:∀(l:Sl TSel) (o:Bs) (r:Z10),(l.l.map TSel.sz).sum<n->(l.l.map TSel.sz).sum<=1048576->r.Fd=d->r.Fout.l.length+(l.l.map TSel.sz).sum<=bigU->Adds (Z127_qn n r l o) r (selsU d n o l.l)) :
  ∀(l:List TSel) (r:Z10),(∀s∈l,s.sz<=n)->(∀s∈l,s.sz<=1048576)->r.Fd=d->r.Fout.l.length+(l.map TSel.sz).sum<=bigU->Adds (Z127_q3 on_ (Z127_qn n) l r) r (selsU d (n+1) on_ l)
 | [],r,_,_,_,_=>by rw [Z127_q3,selsU]; exact Adds.nil r
 | s::l,r,hn,hb,hr,hl=>by
  simp only [List.map_cons,List.sum_cons] at hl;have hp:=sel_parts s;have hsn:=hn s (by simp); have hsb:=hb s (by simp);have hrest:∀r':Z10,r'.Fd=d->r'.Fout.l.length+(l.map TSel.sz).sum<=bigU->Adds (Z127_q3 on_ (Z127_qn n) l r') r' (selsU d (n+1) on_ l):=fun r' hr' hl' =>
   sels_loop hd n on_ ih l r' (fun z hz=>hn z (by simp [hz])) (fun z hz=>hb z (by simp [hz])) hr' hl'
  rw [Z127_q3,selsU_cons];simp only [Ab.on];cases decide (s.FKind=2)
  ·rw [cond_false,cond_false];cases decide (s.FKind=3)
   ·rw [cond_false,cond_false];obtain⟨nl,e,g⟩:=field_adds hd (a:=on_) hsb hr (by omega);have hfl:=fieldU_len d on_ s;rw [e,Option.bind_some];cases ht:(typeX d on_ s.FName).2
    ·simp only [cond_false,List.append_nil];have h1:=selsU_len d n [] s.FSels.l;refine Adds.bind (r:=r) (L:=selsU d n [] s.FSels.l) ?_ fun nl2=>hrest _ hr (by simp only [List.length_append]; omega);obtain⟨nl3,e3,g3⟩:=ih s.FSels [] ⟨r.Fd,r.Fq,⟨nl,r.Fout.l⟩⟩ (by omega) (by omega) hr (by simp only; omega);exact⟨nl3,by rw [e3]; simp,fun h=>⟨(g (g3 h).1).1,(g3 h).2⟩⟩
    ·simp only [cond_true];have h1:=selsU_len d n (typeX d on_ s.FName).1.FName s.FSels.l;refine Adds.bind (r:=r) (L:=fieldU d on_ s++selsU d n (typeX d on_ s.FName).1.FName s.FSels.l) ?_ fun nl2=>hrest _ hr (by simp only [List.length_append]; omega);obtain⟨nl3,e3,g3⟩:=ih s.FSels (typeX d on_ s.FName).1.FName ⟨r.Fd,r.Fq,⟨nl,r.Fout.l++fieldU d on_ s⟩⟩ (by omega) (by omega) hr (by simp only [List.length_append]; omega)
     rw [ht] at g;exact⟨nl3,by rw [e3]; simp,fun h=>by obtain⟨a1,a2⟩:=g3 h; obtain⟨a3,a4⟩:=g a1; exact⟨a3,by rw [a2,List.append_nil]; exact a4⟩⟩
   ·rw [cond_true,cond_true];have h1:=selsU_len d n (bif !(s.FOn==[]) then s.FOn else on_) s.FSels.l;refine Adds.bind (r:=r) (L:=(bif !(s.FOn==[])&&Z76_q d s.FOn then [useU s.FOn [] []] else [])++selsU d n (bif !(s.FOn==[]) then s.FOn else on_) s.FSels.l) ?_ fun nl2=>hrest _ hr (by
     simp only [List.length_append];cases !(s.FOn==[])&&Z76_q d s.FOn<;>simp only [cond_true,cond_false,List.length_nil,List.length_cons]<;>omega)
    cases ho:!(s.FOn==[])
    ·rw [ho] at h1;simp only [cond_false,Bool.false_and,List.nil_append,Option.bind_some] at h1 ⊢;exact(ih s.FSels on_ r (by omega) (by omega) hr (by omega)).id
    ·rw [ho] at h1;simp only [cond_true,Bool.true_and] at h1 ⊢;obtain⟨nl,e,g⟩:=cond_adds hr s.FOn (by omega);rw [e];simp only [Option.bind_some];have hcl:(bif Z76_q d s.FOn then [useU s.FOn [] []] else []).length<=1:=by cases Z76_q d s.FOn<;>simp
     obtain⟨nl3,e3,g3⟩:=ih s.FSels s.FOn ⟨r.Fd,r.Fq,⟨nl,r.Fout.l++bif Z76_q d s.FOn then [useU s.FOn [] []] else []⟩⟩ (by omega) (by omega) hr (by simp only [List.length_append]; omega);exact⟨nl3,by rw [e3]; simp,fun h=>by obtain⟨a1,a2⟩:=g3 h; obtain⟨a3,a4⟩:=g a1; exact⟨a3,by rw [a2,List.append_nil]; exact a4⟩⟩
  ·rw [cond_true,cond_true,Option.bind_some,List.nil_append];exact hrest r hr (by omega)
theorem sels_adds {d:TDoc}(hd:DefsOk d):∀(n:Nat) (l:Sl TSel) (o:Bs) (r:Z10),(l.l.map TSel.sz).sum<n->(l.l.map TSel.sz).sum<=1048576->r.Fd=d->r.Fout.l.length+(l.l.map TSel.sz).sum<=bigU->Adds (Z127_qn n r l o) r (selsU d n o l.l)
 | 0,_,_,_,h,_,_,_=>by omega
 | n+1,l,o,r,hn,hb,hr,hl=>by
  rw [Z127_qn];exact(sels_loop hd n o (sels_adds hd n) l.l r (fun s hs=>by have:=sum_mem (f:=TSel.sz) hs; omega) (fun s hs=>by have:=sum_mem (f:=TSel.sz) hs; omega) hr hl).id
end Go.Proofs

namespace Go.Proofs
open Go Go.Ab
def shortU (u:TUse):Prop:=(u.FType.length<=1048576/\u.FField.length<=1048576/\u.FArg.length<=1048576)/\u.FCount=1
def Short (l:List TUse):Prop:=∀u∈l,shortU u
theorem Short.nil:Short []:=fun u h=>by cases h
theorem Short.app {a b:List TUse}(ha:Short a) (hb:Short b):Short (a++b):=fun u hu=>(List.mem_append.1 hu).elim (ha u) (hb u)
theorem Short.use {a b c:Bs}(h1:a.length<=1048576) (h2:b.length<=1048576) (h3:c.length<=1048576):Short [useU a b c]:=fun u hu=>by
 rw [List.mem_singleton.1 hu]; exact⟨⟨h1,h2,h3⟩,rfl⟩
theorem Short.flat {α:Type}{f:α->List TUse}{l:List α}(h:∀x∈l,Short (f x)):Short (l.flatMap f):=fun u hu=>by
 obtain⟨x,hx,hu⟩:=List.mem_flatMap.1 hu;exact h x hx u hu
theorem Short.good {l:List TUse}(h:Short l):good l:=fun u hu=>by
 obtain⟨⟨h1,h2,h3⟩,h4⟩:=h u hu;refine⟨by unfold inR; rw [h4]; omega, ?_⟩;have e1:Nat.ble u.FType.length maxS=true:=by rw [Nat.ble_eq]; unfold maxS; omega
 have e2:Nat.ble u.FField.length maxS=true:=by rw [Nat.ble_eq]; unfold maxS; omega
 have e3:Nat.ble u.FArg.length maxS=true:=by rw [Nat.ble_eq]; unfold maxS; omega
 simp [okT,TUse.c,scalB,e1,e2,e3]
def NameOk (t:TRef):Prop:=t.FName.length<=1048576
theorem nameOk_of {t:TRef}(h:t.sz<=1048576):NameOk t:=by have:=t.sz_def; unfold Bs.sz at this; unfold NameOk; omega
theorem nameOk_zero:NameOk TRef.zero:=by unfold NameOk; decide
theorem fnd_sz {d:TDoc}(hd:d.sz<=1048576) (s:Bs):(∀f∈(fnd d.FDefs.l s).1.FFields.l,f.sz<=1048576)/\∀i∈(fnd d.FDefs.l s).1.FInputs.l,i.sz<=1048576:=by
 rcases fnd_mem d.FDefs.l s with e|e
 ·rw [e]; exact⟨(fun f h=>by cases h),(fun f h=>by cases h)⟩
 ·have h1:=(fnd d.FDefs.l s).1.sz_def; have h2:=d.sz_def; have h3:=Sl.mem_le (f:=TDef.sz) e;exact⟨fun f hf=>by have:=Sl.mem_le (f:=Z4.sz) hf; omega,fun f hf=>by have:=Sl.mem_le (f:=Z6.sz) hf; omega⟩
theorem input_name {l:List Z6}(h:∀i∈l,i.sz<=1048576) (s:Bs):NameOk (fndI l s).1.FType:=by
 unfold fndI;cases e:l.find? (fun t=>t.FName==s) with
 | none=>exact nameOk_zero
 | some t =>
  have h1:=h _ (List.mem_of_find?_eq_some e); have h2:=t.sz_def;exact nameOk_of (show t.FType.sz<=1048576 by omega)
theorem field_name {l:List Z4}(h:∀i∈l,i.sz<=1048576) (s:Bs):NameOk (fndF l s).1.FType/\∀i∈(fndF l s).1.FArgs.l,i.sz<=1048576:=by
 unfold fndF;cases e:l.find? (fun t=>t.FName==s) with
 | none=>exact⟨nameOk_zero,fun i h=>by cases h⟩
 | some t =>
  have h1:=h _ (List.mem_of_find?_eq_some e); have h2:=t.sz_def;exact⟨nameOk_of (show t.FType.sz<=1048576 by omega),fun i (hi:i∈t.FArgs.l)=>by have:=Sl.mem_le (f:=Z6.sz) hi; omega⟩
theorem inDef_sz {d:TDoc}(hd:d.sz<=1048576) (s:Bs):∀i∈(inDef d s).FInputs.l,i.sz<=1048576:=by
 unfold inDef;cases Z83_q s
 ·exact(fnd_sz hd s).2
 ·intro i h; cases h
theorem vals_short {d:TDoc}(hd:d.sz<=1048576):∀(n:Nat) (t:TRef) (v:Z9),NameOk t->v.sz<=1048576->Short (vals d n t v)
 | 0,_,_,_,_=>Short.nil
 | n+1,t,v,ht,hv=>by
  have h1:=v.sz_def;have h2:v.FText.length+1=Bs.sz v.FText:=rfl;rw [vals];cases decide (v.FKind=5)
  ·rw [cond_false];cases decide (v.FKind=4)&&decide ((inDef d t.FName).FKind=4)
   ·rw [cond_false];cases decide (v.FKind=6)&&decide ((inDef d t.FName).FKind=5)
    ·exact Short.nil
    ·rw [cond_true];refine Short.flat fun p hp=>?_;have:=item_lt (zip_mem hp);cases (fndI (inDef d t.FName).FInputs.l p.1).2
     ·exact Short.nil
     ·exact vals_short hd n _ _ (input_name (inDef_sz hd _) _) (by omega)
   ·exact Short.use ht (by omega) (by decide)
  ·rw [cond_true];cases liW (barS t.FWraps).l
   ·exact Short.nil
   ·exact Short.flat fun x hx=>vals_short hd n _ _ ht (by have:=item_lt hx; omega)
theorem valU_short {d:TDoc}(hd:d.sz<=1048576){t:TRef}{v:Z9}(ht:NameOk t) (hv:v.sz<=1048576):Short (valU d t v):=vals_short hd _ t v ht hv
theorem argsU_short {d:TDoc}(hd:d.sz<=1048576){on_ name:Bs}(h1:on_.length<=1048576) (h2:name.length<=1048576){defs:List Z6}(h3:∀i∈defs,i.sz<=1048576){l:List TArg}(h4:∀a∈l,a.sz<=1048576):Short (argsU d on_ name defs l) :=
 Short.flat fun a ha=>by
  have h5:=h4 a ha; have h6:=a.sz_def; have h7:a.FName.length+1=Bs.sz a.FName:=rfl;cases (fndI defs a.FName).2
  ·exact Short.nil
  ·exact Short.app (Short.use h1 h2 (by omega)) (valU_short hd (input_name h3 _) (by omega))
theorem fieldU_short {d:TDoc}(hd:d.sz<=1048576){on_:Bs}(h1:on_.length<=1048576){s:TSel}(hs:s.sz<=1048576):Short (fieldU d on_ s):=by
 have h2:=s.sz_def; have h3:s.FName.length+1=Bs.sz s.FName:=rfl;exact Short.app (Short.use h1 (by omega) (by decide)) (argsU_short hd h1 (by omega) (field_name (fnd_sz hd on_).1 s.FName).2 fun a ha=>by have:=Sl.mem_le (f:=TArg.sz) ha; omega)
theorem typeX_name {d:TDoc}(hd:d.sz<=1048576) (a f:Bs):(typeX d a f).1.FName.length<=1048576:=by
 have h:=(field_name (fnd_sz hd a).1 f).1;unfold typeX;cases Z76_q d a
 ·exact Nat.zero_le _
 ·simp only [Bool.not_true,cond_false];cases f==sTypename
  ·simp only [cond_false];cases (fndF (fnd d.FDefs.l a).1.FFields.l f).2
   ·exact Nat.zero_le _
   ·exact h
  ·show List.length [83,116,114,105,110,103]<=1048576
   decide
theorem selsU_short {d:TDoc}(hd:d.sz<=1048576):∀(n:Nat) (on_:Bs) (l:List TSel),on_.length<=1048576->(∀s∈l,s.sz<=1048576)->Short (selsU d n on_ l)
 | 0,_,_,_,_=>Short.nil
 | n+1,on_,l,h1,h2=>by
  rw [selsU];refine Short.flat fun s hs=>?_;have h3:=h2 s hs; have h4:=s.sz_def; have h5:s.FOn.length+1=Bs.sz s.FOn:=rfl;have hsub:∀x∈s.FSels.l,x.sz<=1048576:=fun x hx=>by have:=Sl.mem_le (f:=TSel.sz) hx; omega
  cases decide (s.FKind=2)
  ·rw [cond_false];cases decide (s.FKind=3)
   ·rw [cond_false];cases (typeX d on_ s.FName).2
    ·exact selsU_short hd n [] s.FSels.l (by decide) hsub
    ·exact Short.app (fieldU_short hd h1 h3) (selsU_short hd n _ s.FSels.l (typeX_name hd _ _) hsub)
   ·rw [cond_true];refine Short.app ?_ (selsU_short hd n _ s.FSels.l ?_ hsub)
    ·cases !(s.FOn==[])&&Z76_q d s.FOn
     ·exact Short.nil
     ·exact Short.use (by omega) (by decide) (by decide)
    ·cases !(s.FOn==[])
     ·exact h1
     ·show s.FOn.length<=1048576;omega
  ·exact Short.nil
end Go.Proofs

namespace Go.Proofs
open Go Go.Ab
set_option maxRecDepth 100000 in
theorem knows48z:Z43=some true:=by kernel_rfl
noncomputable def fragU (d:TDoc) (q:Z8) (s:Bs):List TUse :=
 (bif Z76_q d (fndG q.FFrags.l s).1.FOn then [useU (fndG q.FFrags.l s).1.FOn [] []] else [])++selsU d F0 (fndG q.FFrags.l s).1.FOn (fndG q.FFrags.l s).1.FSels.l
noncomputable def varU (d:TDoc) (x:TVar):List TUse:=bif x.FHas then valU d x.FType x.FDefault else []
theorem comp_len (d:TDoc) (a:Bs):(bif Z76_q d a then [useU a [] []] else []).length<=1:=by cases Z76_q d a<;>simp
theorem fndG_none {l:List Z5}{s:Bs}(h:(fndG l s).2=false):(fndG l s).1=Z5.zero:=by
 unfold fndG at *;cases e:l.find? (fun t=>t.FName==s) with
 | none=>rfl
 | some t=>rw [e] at h; cases h
theorem fndG_sum {q:Z8}(hq:QOkV q) (s:Bs):((fndG q.FFrags.l s).1.FSels.l.map TSel.sz).sum<=1048576:=by
 cases h:(fndG q.FFrags.l s).2
 ·rw [fndG_none h]; decide
 ·exact hq.2 _ (fndG_name h).2
theorem reach_tot {q:Z8}(hq:QOkV q) (l:Sl TSel) (hl:(l.l.map TSel.sz).sum<=1048576):∃s b,Z34_q q l=some (s,b)/\s.l.length<=1048576:=by
 obtain⟨s,b,e,hs⟩:=walk_top hq l hl;have l2:∀(r:List Bs) (c:Bool),∃c',Z34_q10 q r c=some c':=by
  intro r;induction r with
  | nil=>intro c; exact⟨c,rfl⟩
  | cons a r ih =>
   intro c;obtain⟨x,h1⟩:=loops_told13 hq (fndG q.FFrags.l a).1 (fndG_sum hq a);rw [Z34_q10];simp only [Ab.on,ffind_eq,h1];cases c
   ·obtain⟨c',h2⟩:=ih false;exact⟨c',by simp [guardO,h2]⟩
   ·obtain⟨c',h2⟩:=ih (true&&!x);exact⟨c',by simp only [guardO,if_true,Option.bind_some]; exact h2⟩
 obtain⟨c2,h2⟩:=l2 s.l b;refine⟨s,c2, ?_,hs⟩;unfold Z34_q; rw [e,Option.bind_some,h2]; rfl
theorem fragU_len {q:Z8}(hq:QOkV q) (d:TDoc) (s:Bs):(fragU d q s).length<=1048577:=by
 have h1:=comp_len d (fndG q.FFrags.l s).1.FOn;have h2:=selsU_len d F0 (fndG q.FFrags.l s).1.FOn (fndG q.FFrags.l s).1.FSels.l;have h3:=fndG_sum hq s;unfold fragU;rw [List.length_append];omega
theorem frags_adds {d:TDoc}(hd:DefsOk d){q:Z8}(hq:QOkV q):∀(l:List Bs) (r:Z10),r.Fd=d->r.Fout.l.length+l.length*1048577<=bigU->Adds (Z122_q39 q l r) r (l.flatMap (fragU d q))
 | [],r,_,_=>by rw [Z122_q39]; exact Adds.nil r
 | s::l,r,hr,hl=>by
  rw [List.length_cons,Nat.succ_mul] at hl;have h3:=fndG_sum hq s;have hlen:=fragU_len hq d s;rw [Z122_q39,List.flatMap_cons];simp only [Ab.on,ffind_eq];have hc:=comp_len d (fndG q.FFrags.l s).1.FOn;have e0:∀x:Z10,Z127_q x (fndG q.FFrags.l s).1.FSels (fndG q.FFrags.l s).1.FOn=Z127_qn F0 x (fndG q.FFrags.l s).1.FSels (fndG q.FFrags.l s).1.FOn:=fun _=>rfl;simp only [e0];have ha:Adds ((Z125_q r (fndG q.FFrags.l s).1.FOn).bind fun x51=>Z127_qn F0 x51 (fndG q.FFrags.l s).1.FSels (fndG q.FFrags.l s).1.FOn) r (fragU d q s) :=
   Adds.bind (cond_adds hr _ (by omega)) fun nl=>sels_adds hd F0 _ _ _ (by rw [F0_eq]; omega) h3 hr (by simp only [List.length_append]; omega)
  have hb:=Adds.bind (k:=fun x52=>Z122_q39 q l x52) ha fun nl=>frags_adds hd hq l _ hr (by simp only [List.length_append]; omega);rw [Option.bind_assoc] at hb;exact hb
theorem vars_adds {d:TDoc}(hd:DefsOk d):∀(l:List TVar) (r:Z10),(∀x∈l,x.sz<=1048576/\SOk x.FType.FWraps)->r.Fd=d->r.Fout.l.length+(l.map TVar.sz).sum<=bigU->Adds (Z122_q24 l r) r (l.flatMap (varU d))
 | [],r,_,_,_=>by rw [Z122_q24]; exact Adds.nil r
 | x::l,r,hx,hr,hl=>by
  simp only [List.map_cons,List.sum_cons] at hl;obtain⟨h1,h2⟩:=hx x (by simp);have h3:=x.sz_def;have hV:=valU_len d x.FType x.FDefault;rw [Z122_q24,List.flatMap_cons];simp only [Ab.on];unfold varU;cases hh:x.FHas
  ·rw [cond_false,cond_false,Option.bind_some,List.nil_append];exact vars_adds hd l r (fun z hz=>hx z (by simp [hz])) hr (by omega)
  ·rw [cond_true,cond_true];refine Adds.bind (value_top hd (by omega) h2 hr (by omega)).id fun nl=>vars_adds hd l _ (fun z hz=>hx z (by simp [hz])) hr (by simp only [List.length_append]; omega)
theorem fragU_short {d:TDoc}(hd:d.sz<=1048576){q:Z8}(hq:q.sz<=1048576) (s:Bs):Short (fragU d q s):=by
 have h:(fndG q.FFrags.l s).1.FOn.length<=1048576/\∀x∈(fndG q.FFrags.l s).1.FSels.l,x.sz<=1048576:=by
  cases hf:(fndG q.FFrags.l s).2
  ·rw [fndG_none hf]; exact⟨by decide,fun x h=>by cases h⟩
  ·have hm:=Z8.frag_le (fndG_name hf).2;have h1:=(fndG q.FFrags.l s).1.sz_def;have h2:(fndG q.FFrags.l s).1.FOn.length+1=Bs.sz (fndG q.FFrags.l s).1.FOn:=rfl;exact⟨by omega,fun x hx=>by have:=Sl.mem_le (f:=TSel.sz) hx; omega⟩
 refine Short.app ?_ (selsU_short hd _ _ _ h.1 h.2);cases Z76_q d (fndG q.FFrags.l s).1.FOn
 ·exact Short.nil
 ·exact Short.use h.1 (by decide) (by decide)
theorem varU_short {d:TDoc}(hd:d.sz<=1048576){x:TVar}(hx:x.sz<=1048576):Short (varU d x):=by
 have h:=x.sz_def;unfold varU;cases x.FHas
 ·exact Short.nil
 ·exact valU_short hd (nameOk_of (by omega)) (by omega)
theorem root_len (k:Int):(Z82_q k).length<=1048576:=by
 unfold Z82_q;cases decide (k=(1:Int))<;>cases decide (k=(2:Int))<;>cases decide (k=(3:Int))<;>simp
noncomputable def ofU (d:TDoc) (q:Z8) (o:TOp) (s:Sl Bs):List TUse:=(selsU d F0 (Z82_q o.FKind) o.FSels.l++s.l.flatMap (fragU d q))++o.FVars.l.flatMap (varU d)
theorem flat_len {α β:Type}{f:α->List β}{n:Nat}(h:∀x,(f x).length<=n) (l:List α):(l.flatMap f).length<=l.length*n:=by
 induction l with
 | nil=>simp
 | cons a r ih=>have:=h a; rw [List.flatMap_cons,List.length_append,List.length_cons,Nat.succ_mul]; omega
end Go.Proofs

namespace Go.Proofs
open Go Go.Ab
def kU (a b c:Bs):TUse:=⟨a,b,c,0⟩
theorem count_loop (t f g:Bs):∀(l:List TUse) (n:Int),wr n=n->Z121_q8 t f g l n=wr (n+cnt l (kU t f g))
 | [],n,hn=>by simp [Z121_q8,cnt,hn]
 | x::r,n,hn=>by
  rw [Z121_q8];simp only [Ab.on];have hk:(((x.FType==t)&&(x.FField==f))&&(x.FArg==g))=true↔sameU (kU t f g) x:=by
   simp only [sameU,kU,Bool.and_eq_true,beq_iff_eq];exact⟨fun h=>⟨h.1.1.symm,h.1.2.symm,h.2.symm⟩,fun h=>⟨⟨h.1.symm,h.2.1.symm⟩,h.2.2.symm⟩⟩
  rw [cnt_cons];cases hb:(((x.FType==t)&&(x.FField==f))&&(x.FArg==g))
  ·rw [cond_false,if_neg (fun h=>by rw [hk.2 h] at hb; cases hb),Int.zero_add]; exact count_loop t f g r n hn
  ·rw [cond_true,if_pos (hk.1 hb),count_loop t f g r _ (wr_wr _)];show wr (wr (n+x.FCount)+_)=_;rw [wr_add,Int.add_assoc]
theorem count_eq (a:Sl TUse) (t f g:Bs):Z121_q a t f g=wr (cnt a.l (kU t f g)):=by
 unfold Z121_q; simp only [Ab.on]; rw [count_loop t f g a.l 0 (by rw [wr_eq]; decide),Int.zero_add]
theorem cnt_sum {l:List TUse}(h:∀u∈l,inR u) (k:TUse):wr (cnt (sumU l) k)=wr (cnt l k):=by
 have hc:=sumU_canon h;generalize sumU l=L at hc;by_cases hex:∃x∈L,sameU k x
 ·obtain⟨x,hx,hs⟩:=hex;have e:cnt L k=x.FCount:=by
   obtain⟨p,q,rfl⟩:=List.append_of_mem hx;have hsr:=hc.srt;rw [List.pairwise_append,List.pairwise_cons] at hsr;rw [cnt_app,cnt_cons,if_pos hs,cnt_none (l:=p),cnt_none (l:=q)]
   ·omega
   ·intro y hy g; exact sameU_not (sameU_trans (sameU_symm hs) g) (hsr.2.1.1 y hy)
   ·intro y hy g; exact sameU_not (sameU_trans (sameU_symm g) hs) (hsr.2.2 y hy x (by simp))
  rw [e,((hc.mem x).1 hx).2,wr_wr,cnt_same hs]
 ·have hno:∀x∈L,¬sameU k x:=fun x hx g=>hex ⟨x,hx,g⟩;rw [cnt_none hno,cnt_none (l:=l)];intro y hy g;exact hno (addU y (wr (cnt l y))) ((hc.mem _).2 ⟨⟨y,hy,sameU_symm (sameU_add y _)⟩,by rw [cnt_same (sameU_add y _)]; rfl⟩) (sameU_trans g (sameU_symm (sameU_add y _)))
theorem cnt_rng {l:List TUse}(h:∀u∈l,u.FCount=1) (k:TUse):0<=cnt l k/\cnt l k<=(l.length:Nat)/\((∃u∈l,sameU k u)->1<=cnt l k):=by
 induction l with
 | nil=>exact⟨by simp [cnt],by simp [cnt],fun⟨_,h,_⟩=>by cases h⟩
 | cons x r ih =>
  obtain⟨h1,h2,h3⟩:=ih fun u hu=>h u (.tail _ hu);have hx:=h x (.head _);rw [cnt_cons,hx];simp only [List.length_cons];by_cases hs:sameU k x
  ·rw [if_pos hs];exact⟨by omega,by omega,fun _=>by omega⟩
  ·rw [if_neg hs];refine⟨by omega,by omega,fun⟨u,hu,g⟩=>?_⟩;rcases List.mem_cons.1 hu with rfl|hu
   ·exact absurd g hs
   ·have:=h3 ⟨u,hu,g⟩; omega
theorem count_pos {X:List TUse}(hX:Short X) (hl:X.length<=bigU) (nl:Bool){t f g:Bs}(h:useU t f g∈X):¬Z121_q ⟨nl,sumU X⟩ t f g<1:=by
 rw [count_eq,cnt_sum fun u hu=>(hX.good u hu).1];obtain⟨h1,h2,h3⟩:=cnt_rng (fun u hu=>(hX u hu).2) (kU t f g) (l:=X);have h4:=h3 ⟨_,h,rfl,rfl,rfl⟩;have hB:bigU=2400000000000:=rfl;rw [wr_id (by omega)];omega
theorem of_is {d:TDoc}(hds:d.sz<=1048576) (hdw:d.wf){q:Z8}(hqs:q.sz<=1048576) (hqw:q.wf){n:Nat}(hn:n<q.FOps.l.length):∃s b nl,Z34_q q q.FOps.l[n].FSels=some (s,b)/\Z122_q d q (n:Int)=some ⟨nl,sumU (ofU d q q.FOps.l[n] s)⟩/\Short (ofU d q q.FOps.l[n] s)/\(ofU d q q.FOps.l[n] s).length<=bigU:=by
 have hd:=defsOk hds hdw;have hl:=q.lens;have hq:QOkV q:=⟨by omega,fun f hf=>by
  have h1:=Z8.frag_le hf; have h2:=f.sz_def;have h3:(f.FSels.l.map TSel.sz).sum+1=Sl.sz TSel.sz f.FSels:=by unfold Sl.sz; omega
  omega⟩
 unfold Z122_q;rw [show ((decide (((n:Nat):Int)<(0:Int)))||(decide (((q.FOps.l.length:Nat):Int)<=((n:Nat):Int))))=false by simp only [Bool.or_eq_false_iff,decide_eq_false_iff_not]; omega];have hi:idxC q.FOps.l ((n:Nat):Int)=some q.FOps.l[n]:=by unfold idxC; rw [if_pos (by omega),Int.toNat_natCast,List.getElem?_eq_getElem hn]
 have hm:q.FOps.l[n]∈q.FOps.l:=List.getElem_mem hn;generalize q.FOps.l[n]=o at hi hm ⊢;have ho:=Z8.op_le hm; have hos:=o.sz_def;have how:o.wf:=(Z8.FOps_wf hqw).2.2 o hm;have hsel:(o.FSels.l.map TSel.sz).sum+1=Sl.sz TSel.sz o.FSels:=by unfold Sl.sz; omega
 have hvar:(o.FVars.l.map TVar.sz).sum+1=Sl.sz TVar.sz o.FVars:=by unfold Sl.sz; omega
 have hvs:∀x∈o.FVars.l,x.sz<=1048576/\SOk x.FType.FWraps:=fun x hx=>by
  have h1:=Sl.mem_le (f:=TVar.sz) hx; have h2:=x.sz_def;exact⟨by omega,TRef.sok (by omega) (TVar.FType_wf ((TOp.FVars_wf how).2.2 x hx))⟩
 have hB:bigU=2400000000000:=rfl;obtain⟨s,b1,r1,hs⟩:=reach_tot hq o.FSels (by omega);have hS:=selsU_len d F0 (Z82_q o.FKind) o.FSels.l;have hF:=flat_len (fragU_len hq d) s.l;have hF2:s.l.length*1048577<=1048576*1048577:=Nat.mul_le_mul_right _ hs;have hV:(o.FVars.l.flatMap (varU d)).length<=(o.FVars.l.map TVar.sz).sum:=flatMap_le' fun x _=>by
  have h1:=x.sz_def; have h2:=valU_len d x.FType x.FDefault;unfold varU; cases x.FHas
  ·simp
  ·rw [cond_true]; omega
 obtain⟨m1,e1,g1⟩:=sels_adds hd F0 o.FSels (Z82_q o.FKind) ⟨d,q,Sl.nil⟩ (by rw [F0_eq]; omega) (by omega) rfl (by simp only [Sl.nil,List.length_nil]; omega);obtain⟨m2,e2,g2⟩:=frags_adds hd hq s.l ⟨d,q,⟨m1,Sl.nil.l++selsU d F0 (Z82_q o.FKind) o.FSels.l⟩⟩ rfl (by simp only [Sl.nil,List.nil_append]; omega);obtain⟨m3,e3,g3⟩:=vars_adds hd o.FVars.l ⟨d,q,⟨m2,(Sl.nil.l++selsU d F0 (Z82_q o.FKind) o.FSels.l)++s.l.flatMap (fragU d q)⟩⟩ hvs rfl (by simp only [Sl.nil,List.nil_append,List.length_append]; omega)
 have hX:(Sl.nil.l++selsU d F0 (Z82_q o.FKind) o.FSels.l)++s.l.flatMap (fragU d q)++o.FVars.l.flatMap (varU d)=ofU d q o s:=rfl;have hXl:(ofU d q o s).length<=bigU:=by unfold ofU; rw [List.length_append,List.length_append]; omega
 have hsh:Short (ofU d q o s):=Short.app (Short.app (selsU_short hds _ _ _ (root_len _) fun x hx=>by have:=Sl.mem_le (f:=TSel.sz) hx; omega) (Short.flat fun x _=>fragU_short hds hqs x)) (Short.flat fun x hx=>varU_short hds (hvs x hx).1);obtain⟨n1,u1⟩:=usort_eq ⟨m3,ofU d q o s⟩ hXl (fun h=>by
  obtain⟨a1,a2⟩:=g3 h;obtain⟨a3,a4⟩:=g2 a1;obtain⟨a5,a6⟩:=g1 a3;rw [<- hX,a2,a4,a6]; rfl) hsh.good
 refine⟨s,b1,n1,r1, ?_,hsh,hXl⟩;have e1':Z127_q ⟨d,q,Sl.nil⟩ o.FSels (Z82_q o.FKind)=_:=e1;rw [cond_false,hi,Option.bind_some];simp only [Ab.on];rw [e1',Option.bind_some,r1,Option.bind_some,e2,Option.bind_some,e3,Option.bind_some,hX,u1];rfl
end Go.Proofs

namespace Go.Proofs
open Go Go.Ab
theorem cnt_t {X:List TUse}(hX:Short X) (hl:X.length<=bigU){nl:Bool}{t f g:Bs}(h:useU t f g∈X):decide (Z121_q ⟨nl,sumU X⟩ t f g<1)=false:=decide_eq_false (count_pos hX hl nl h)
theorem counted_ok {d:TDoc}(hd:DefsOk d) (hT:∀on_ f,(typeX d on_ f).2=true->LC d (typeX d on_ f).1.FName){X:List TUse}(hX:Short X) (hXl:X.length<=bigU) (nl:Bool):∀(n:Nat) (l:Sl TSel) (on_ a:Bs) (m k:Nat),Sl.sz TSel.sz l<n->Sl.sz TSel.sz l<=m->Sl.sz TSel.sz l<=k->(∀s∈l.l,GSel d s)->selsX m d l.l on_ a=[]->(l.l=[]\/Z76_q d on_=true)->(∀u∈selsU d k on_ l.l,u∈X)->Z42_qn n d l on_ ⟨nl,sumU X⟩=some true
 | 0,_,_,_,_,_,h,_,_,_,_,_,_=>by omega
 | n+1,l,on_,a,m,k,hn,hm,hk,hg,hx,hc,hu=>by
  have hpos:1<=Sl.sz TSel.sz l:=Sl.sz_pos _ _;obtain⟨m,rfl⟩:∃k,m=k+1:=⟨m-1,by omega⟩;obtain⟨k,rfl⟩:∃i,k=i+1:=⟨k-1,by omega⟩;have loop:∀t:List TSel,(∀s∈t,s∈l.l)->(t.flatMap (selX (selsX m d) d on_ a)=[])->(t=[]\/Z76_q d on_=true)->(∀u∈selsU d (k+1) on_ t,u∈X)->Z42_q5 d on_ ⟨nl,sumU X⟩ (Z42_qn n) t=some (Sum.inl ()):=by
   intro t;induction t with
   | nil=>intro _ _ _ _; rfl
   | cons s r ih =>
    intro ht hf hc hu;rw [List.flatMap_cons] at hf;obtain⟨hf1,hf2⟩:=List.append_eq_nil_iff.1 hf;rw [selsU_cons] at hu;have hu1:=fun u h=>hu u (List.mem_append_left _ h);have hu2:=fun u h=>hu u (List.mem_append_right _ h);have hc:Z76_q d on_=true:=by
     rcases hc with h|h
     ·cases h
     ·exact h
    have ih:=ih (fun x hx=>ht x (.tail _ hx)) hf2 (.inr hc) hu2;have hs:=ht s (.head _);have h5:=Sl.mem_le (f:=TSel.sz) hs;have h6:=s.sub_lt;have hG:=hg s hs;rw [Z42_q5];simp only [Ab.on,ih,type_eq hd,Option.bind_some];unfold selX at hf1;cases k2:decide (s.FKind=2)
    ·rw [k2] at hf1 hu1;simp only [cond_false] at hf1 hu1 ⊢;have k2:=of_decide_eq_false k2;have hsub:∀x∈s.FSels.l,GSel d x:=by
      obtain⟨_,_,g⟩:=hG;exact g k2
     cases k3:decide (s.FKind=3)
     ·rw [k3] at hf1 hu1;simp only [cond_false] at hf1 hu1 ⊢;obtain⟨p1,p2⟩:=List.append_eq_nil_iff.1 hf1;obtain⟨q1,q2⟩:=own_said p1 hc (hT on_ s.FName);rw [q1,cond_true] at hu1;have hu3:=hu1 _ (List.mem_append_left _ (List.mem_cons_self ..));rw [cnt_t hX hXl hu3,cond_false,counted_ok hd hT hX hXl nl n s.FSels _ _ m k (by omega) (by omega) (by omega) hsub p2 q2 fun u h=>hu1 u (List.mem_append_right _ h)]
      rfl
     ·rw [k3] at hf1 hu1;simp only [cond_true] at hf1 hu1 ⊢;have k3:=of_decide_eq_true k3;obtain⟨_,p2⟩:=List.append_eq_nil_iff.1 hf1;have hu4:=fun u h=>hu1 u (List.mem_append_right _ h);have hgo:∀to:Bs,(bif !(s.FOn==[]) then s.FOn else on_)=to->Z76_q d to=true->Z42_qn n d s.FSels to ⟨nl,sumU X⟩=some true:=fun to e hto=>by
       rw [e] at p2 hu4;exact counted_ok hd hT hX hXl nl n s.FSels to _ m k (by omega) (by omega) (by omega) hsub p2 (.inr hto) hu4
      cases ho:(!(s.FOn==([]:Bs)))
      ·rw [ho] at hgo;rw [cond_false,hgo on_ rfl hc];rfl
      ·rw [ho] at hgo;have hcO:Z76_q d s.FOn=true:=by
        obtain⟨_,g,_⟩:=hG;exact g k3 (by intro e; rw [e] at ho; cases ho)
       rw [cond_true,hgo s.FOn rfl hcO];rfl
    ·rfl
  rw [Z42_qn,loop l.l (fun _ h=>h) hx hc hu];rfl
def FrSaid (d:TDoc) (q:Z8):Prop:=∀f∈q.FFrags.l,(Z76_q d f.FOn=true/\∀s∈f.FSels.l,GSel d s)/\selsX M0 d f.FSels.l f.FOn f.FName=[]/\Sl.sz TSel.sz f.FSels<=1048576
theorem reach_counted {d:TDoc}(hd:DefsOk d) (hT:∀on_ f,(typeX d on_ f).2=true->LC d (typeX d on_ f).1.FName){q:Z8}(hF:FrSaid d q){X:List TUse}(hX:Short X) (hXl:X.length<=bigU) (nl:Bool):∀l:List Bs,(∀u∈l.flatMap (fragU d q),u∈X)->Z41_q36 d q ⟨nl,sumU X⟩ l=some (Sum.inl ())
 | [],_=>rfl
 | s::r,hu=>by
  rw [List.flatMap_cons] at hu;have ih:=reach_counted hd hT hF hX hXl nl r fun u h=>hu u (List.mem_append_right _ h);have hu:=fun u h=>hu u (List.mem_append_left _ h);rw [Z41_q36];simp only [Ab.on,ffind_eq,ih];cases hf:(fndG q.FFrags.l s).2
  ·rfl
  ·obtain⟨_,hm⟩:=fndG_name hf;obtain⟨⟨hc,hg⟩,hx,hz⟩:=hF _ hm;unfold fragU at hu;rw [hc,cond_true] at hu;have e1:Z42_q d (fndG q.FFrags.l s).1.FSels (fndG q.FFrags.l s).1.FOn ⟨nl,sumU X⟩=some true :=
    counted_ok hd hT hX hXl nl F0 _ _ _ M0 F0 (by rw [F0_eq]; omega) (by unfold M0; omega) (by rw [F0_eq]; omega) hg hx (.inr hc) fun u h=>hu u (List.mem_append_right _ h)
   have e2:=cnt_t hX hXl (nl:=nl) (hu _ (List.mem_append_left _ (List.mem_singleton.2 rfl)));simp only [guardO,if_true,e1,Option.bind_some,Bool.not_true,Bool.not_false,Bool.and_self,cond_true];rw [e2];rfl
theorem ops_counted {d:TDoc}(hds:d.sz<=1048576) (hdw:d.wf) (hT:∀on_ f,(typeX d on_ f).2=true->LC d (typeX d on_ f).1.FName){q:Z8}(hqs:q.sz<=1048576) (hqw:q.wf) (hF:FrSaid d q):∀(l:List TOp) (i:Nat),q.FOps.l.drop i=l->(∀o∈l,∀s∈o.FSels.l,GSel d s)->l.flatMap (opX d q.FFrags)=[]->Z41_q15 d q l i=some (Sum.inl ())
 | [],_,_,_,_=>rfl
 | o::r,i,hi,hg,hx=>by
  have hd:=defsOk hds hdw;rw [List.flatMap_cons] at hx;obtain⟨h1,h2⟩:=List.append_eq_nil_iff.1 hx;unfold opX at h1;obtain⟨h3,h4⟩:=List.append_eq_nil_iff.1 h1;have h3:=flt_nil h3;simp only [Bool.or_eq_false_iff,Bool.not_eq_false',decide_eq_true_eq] at h3;have hil:i<q.FOps.l.length:=by
   rcases Nat.lt_or_ge i q.FOps.l.length with h|h
   ·exact h
   ·rw [List.drop_of_length_le h] at hi; cases hi
  have he:q.FOps.l.drop i=q.FOps.l[i]::q.FOps.l.drop (i+1):=List.drop_eq_getElem_cons hil;rw [hi] at he;obtain⟨he1,he2⟩:=List.cons.inj he;have hm:o∈q.FOps.l:=by rw [he1]; exact List.getElem_mem hil
  have hz:=Z8.op_le hm; have hos:=o.sz_def;have hz:Sl.sz TSel.sz o.FSels<=1048576:=by omega
  obtain⟨s,b,nl,r1,u1,hsh,hXl⟩:=of_is hds hdw hqs hqw hil;rw [<- he1] at r1 u1 hsh hXl;have ih:=ops_counted hds hdw hT hqs hqw hF r (i+1) he2.symm (fun x h=>hg x (.tail _ h)) h2;have e1:Z42_q d o.FSels (Z82_q o.FKind) ⟨nl,sumU (ofU d q o s)⟩=some true :=
   counted_ok hd hT hsh hXl nl F0 _ _ _ M0 F0 (by rw [F0_eq]; omega) (by unfold M0; omega) (by rw [F0_eq]; omega) (hg o (.head _)) h4 (.inr (root_comp h3.1.1 h3.1.2)) fun u h=>List.mem_append_left _ (List.mem_append_left _ h)
  have e2:=reach_counted hd hT hF hsh hXl nl s.l fun u h=>List.mem_append_left _ (List.mem_append_right _ h);rw [Z41_q15];simp only [Ab.on];rw [u1,Option.bind_some,e1,Option.bind_some,r1];simp only [Bool.not_true,cond_false,Option.bind_some];rw [e2,Option.bind_some];exact ih
theorem right48_ok (d:TDoc) (q:Z8) (hd:d.sz<=1048576) (hq:q.sz<=1048576):Ok (Z44_q d q):=by
 unfold Z44_q;have h1:=Z73_ok d hd; have h2:=Z64_ok q hq; have h3:=Z56_ok d hd; have h4:=Z65_ok q hq
 (repeat' (first|exact Tot.some _|assumption|(with_reducible refine Tot.bind ?_ fun _ _=>?_)|(with_reducible refine Tot.guard (fun _=>?_) fun _ _ _=>?_)|(with_reducible refine Tot.cond (fun _=>?_) fun _=>?_)|(with_reducible refine Tot.on fun _ _=>?_)|split))
theorem right48_parts {d:TDoc}{q:Z8}(h:Z44_q d q=some true):Z56_q d=some true:=by
 unfold Z44_q at h;obtain⟨x3,g3,h⟩:=bindO_some h;obtain⟨x4,g4,h⟩:=guardO_some h;obtain⟨x5,g5,h⟩:=guardO_some h;obtain⟨x6,g6,h⟩:=guardO_some h;have h:=Option.some.inj h;cases x3
 ·cases x4
  ·cases x5
   ·cases h
   ·exact g5 rfl
  ·cases h
 ·cases h
theorem usageFields_q (d:TDoc) (q:Z8) (hz:d.sz<=1048576) (hw:d.wf) (hq:q.sz<=1048576) (hqw:q.wf):Z41_q d q=some true:=by
 have hd:=defsOk hz hw;have hdl:d.FDefs.l.length<=1048576:=by have h1:=d.sz_def; have h3:=Sl.len_lt (f:=TDef.sz) d.FDefs TDef.pos; omega
 obtain⟨b,hb⟩:=right48_ok d q hz hq;unfold Z41_q;rw [hb,Option.bind_some];have hk:(Z43.bind fun x11=>some x11)=some true:=by rw [knows48z]; rfl
 cases b
 ·simp only [Bool.not_false,guardO,Bool.not_true,Bool.true_or,cond_true]; exact hk
 ·have hR:=right48_parts hb;obtain⟨l5,e5⟩:=schema_check_tot hz true;obtain⟨l7,e7⟩:=fragment_told (d:=d) hdl hq;obtain⟨nl,e8⟩:=check_ok hd q hq;simp only [Bool.not_true,Bool.not_false,guardO,Bool.false_or,if_true,e5,Option.bind_some];cases h5:decide ((0:Int)<((l5.l.length:Nat):Int))
  ·simp only [Bool.not_true,Bool.not_false,Bool.false_or,if_true,e7,Option.bind_some];cases h7:decide ((0:Int)<((l7.l.length:Nat):Int))
   ·simp only [Bool.not_true,Bool.not_false,Bool.false_or,if_true,e8,Option.bind_some];cases h8:decide ((0:Int)<(((checkX d q).length:Nat):Int))
    ·have n5:=nil_of h5;have n7:=nil_of h7;have n8:=nil_of h8;obtain⟨s1,s2⟩:=fragment_said e7 n7;have hT:=type_lc (kinds hR) (schema_said e5 n5);unfold checkX at n8;obtain⟨c1,c2⟩:=List.append_eq_nil_iff.1 n8;have hF:FrSaid d q:=fun f hf=>⟨s2 f hf,by
      have:=List.flatMap_eq_nil_iff.1 c2 f hf;exact this,by have h1:=Z8.frag_le hf; have h2:=f.sz_def; omega⟩
     rw [cond_false,ops_counted hz hw hT hq hqw hF q.FOps.l 0 rfl s1 c1,Option.bind_some];exact hk
    ·exact hk
   ·simp only [Bool.not_true,Bool.not_false,Bool.false_or,Bool.true_or,cond_true]; exact hk
  ·simp only [Bool.not_true,Bool.not_false,Bool.false_or,Bool.true_or,cond_true]; exact hk
theorem usageFields_eq (d:TDoc) (q:Z8) (hz:d.sz<=1048576) (hw:d.wf) (hq:q.sz<=1048576) (hqw:q.wf):Z41 d q=some true:=by
 rw [Z41_eq]; exact usageFields_q d q hz hw hq hqw
end Go.Proofs

namespace Go.Proofs.YtfmbgiahleepfaaGreat
open Go Go.Ab Go.RowKit Go.ChangeShapes Go.WideShapes Go.ChangeAt
variable {lou:Lou}
theorem bulkAll {H:Type}(l:List (DataW H)):Rows.uptoBulkAll l=(l.map Rows.uptoBulk).sum:=by
 induction l with
 | nil=>rfl
 | cons x r ih=>simp only [Rows.uptoBulkAll,List.map_cons,List.sum_cons,ih]
theorem bulkB {H:Type}:Bulk (H:=H) Rows.uptoBulk:=by
 refine⟨fun d=>?_,fun b=>by simp [Rows.uptoBulk],fun e s=>by simp only [Rows.uptoBulk,bulkAll]; omega,fun l=>by simp only [Rows.uptoBulk,bulkAll]; omega⟩;cases d with
 | lit l=>cases l<;>simp [Rows.uptoBulk]
 | nil=>simp [Rows.uptoBulk]
 | ptr d=>simp [Rows.uptoBulk]
 | slice elems spare=>simp [Rows.uptoBulk]
 | agg parts=>simp [Rows.uptoBulk]
 | iface t d=>simp [Rows.uptoBulk]
 | map entries=>simp [Rows.uptoBulk]
 | held h=>simp [Rows.uptoBulk]
theorem own:ownKnob Tryz.prog.godebug=none:=by kernel_rfl
theorem laid:laidOutB Tryz.prog=true:=by kernel_rfl
theorem bound {H:Type}{l:List (DataW H)}(hk:Rows.uptoSmall H l=true):Rows.uptoBulkAll l<=1048576:=of_decide_eq_true hk
theorem usageFields_call (d:TDoc) (q:Z8) (hd:d.sz<=1048576) (hw:d.wf) (hq:q.sz<=1048576) (hqw:q.wf) (H:Heap):ACalls Tryz.prog 3 [.agg d.c,.agg q.c] H fun r h'=>r=.a (.d (.bool true))/\h'=H:=Z41_walk (usageFields_eq d q hd hw hq hqw) H
end Go.Proofs.YtfmbgiahleepfaaGreat

