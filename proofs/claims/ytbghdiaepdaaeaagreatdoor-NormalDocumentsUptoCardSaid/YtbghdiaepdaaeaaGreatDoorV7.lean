import Derived.Test.YtbghdiaepdaaeaaGreatDoorV6
import Derived.Test.YtbghdiaepdaaeaaGreatDoorRows
set_option maxRecDepth 100000
set_option maxHeartbeats 2000000
set_option linter.unusedVariables false
set_option linter.unusedSimpArgs false
namespace Go.Proofs
open Go Go.Ab
def Z68_q27 (a1:Z10):List TOp->Nat->Option (Unit ⊕ Bool)
 | [],s5_28=>some (Sum.inl ())
 | h27::r27,s5_28=>on (h27) fun x35=>(a1.FOps.l[s5_28]?).bind fun x36=>guardO (!((!decide (x35.FKind=x36.FKind))||(!(x35.FName==x36.FName)))) (Z72_q x35.FVars x36.FVars) false fun x38=>guardO (!(((!decide (x35.FKind=x36.FKind))||(!(x35.FName==x36.FName)))||(!x38))) (Z71_q x35.FSels x36.FSels) false fun x39=>bif ((((!decide (x35.FKind=x36.FKind))||(!(x35.FName==x36.FName)))||(!x38))||(!x39)) then(some (Sum.inr false)) else(Z68_q27 a1 (r27) (s5_28+1) )
theorem Z68_l27_qe {a0:Z10}{a1:Z10}  (Kb27:(Unit ⊕ Bool)->Option Bool) (hend:∀(n27:Nat) (s5_28:Nat),Z68_j8 a0 a1  =Kb27 (Sum.inl ())) (hret:∀e:Bool,some e=Kb27 (Sum.inr e)):∀(n27:Nat) (s5_28:Nat),(0<n27/\a0.FOps.l.length<s5_28+n27)->Z68_l27 a0 a1 n27 s5_28=Option.bind (Z68_q27 a1 (a0.FOps.l.drop s5_28) s5_28 ) Kb27:=by
 intro n27;induction n27 with
 | zero=>intro s5_28 hn; exact absurd hn.1 (by omega)
 | succ n27 ih27 =>
  intro s5_28 hn;rw [Z68_l27];by_cases hlt:s5_28<a0.FOps.l.length
  ·obtain⟨h27,hh27⟩:=Qa hlt;rw [Q.drop_of hh27,Z68_q27];refine QT hlt ?_;refine Q.bindPO hh27 fun x35 hx_x35=>?_;refine Q.bindO rfl fun x36=>?_;refine Q.guardOO (Z72_eq _ _) fun x38=>?_;refine Q.guardOO (Z71_eq _ _) fun x39=>?_;refine Q.condO ?_ ?_
   ·all_goals exact hret _
   all_goals exact ih27 _ ⟨by omega,by omega⟩
  rw [dL (by omega),Z68_q27];refine QF hlt ?_;exact hend n27 s5_28
def Z68_q12 (a1:Z10):List Z5->Nat->Option (Unit ⊕ Bool)
 | [],s8_13=>some (Sum.inl ())
 | h12::r12,s8_13=>on (h12) fun x20=>(a1.FFrags.l[s8_13]?).bind fun x21=>guardO (!((!(x20.FName==x21.FName))||(!(x20.FOn==x21.FOn)))) (Z71_q x20.FSels x21.FSels) false fun x23=>bif (((!(x20.FName==x21.FName))||(!(x20.FOn==x21.FOn)))||(!x23)) then(some (Sum.inr false)) else(Z68_q12 a1 (r12) (s8_13+1) )
theorem Z68_l12_qe {a0:Z10}{a1:Z10}  (Kb12:(Unit ⊕ Bool)->Option Bool) (hend:∀(n12:Nat) (s8_13:Nat),Z68_j9   =Kb12 (Sum.inl ())) (hret:∀e:Bool,some e=Kb12 (Sum.inr e)):∀(n12:Nat) (s8_13:Nat),(0<n12/\a0.FFrags.l.length<s8_13+n12)->Z68_l12 a0 a1 n12 s8_13=Option.bind (Z68_q12 a1 (a0.FFrags.l.drop s8_13) s8_13 ) Kb12:=by
 intro n12;induction n12 with
 | zero=>intro s8_13 hn; exact absurd hn.1 (by omega)
 | succ n12 ih12 =>
  intro s8_13 hn;rw [Z68_l12];by_cases hlt:s8_13<a0.FFrags.l.length
  ·obtain⟨h12,hh12⟩:=Qa hlt;rw [Q.drop_of hh12,Z68_q12];refine QT hlt ?_;refine Q.bindPO hh12 fun x20 hx_x20=>?_;refine Q.bindO rfl fun x21=>?_;refine Q.guardOO (Z71_eq _ _) fun x23=>?_;refine Q.condO ?_ ?_
   ·all_goals exact hret _
   all_goals exact ih12 _ ⟨by omega,by omega⟩
  rw [dL (by omega),Z68_q12];refine QF hlt ?_;exact hend n12 s8_13
def Z68_q (a0:Z10) (a1:Z10):Option Bool:=bif ((!decide (((a0.FOps.l.length:Nat):Int)=((a1.FOps.l.length:Nat):Int)))||(!decide (((a0.FFrags.l.length:Nat):Int)=((a1.FFrags.l.length:Nat):Int)))) then(some false) else(Option.bind (Z68_q27 a1 a0.FOps.l 0 ) fun o27=>match o27 with|Sum.inl _=>(on (()) fun _=>Option.bind (Z68_q12 a1 a0.FFrags.l 0 ) fun o12=>match o12 with|Sum.inl _=>(on (()) fun _=>some true)|Sum.inr e12=>(some e12))|Sum.inr e27=>(some e27))
theorem Z68_eq (a0:Z10) (a1:Z10):Z68 a0 a1=Z68_q a0 a1:=by
 unfold Z68 Z68_q;refine Qs ?_;refine Q.condO ?_ ?_
 ·all_goals rfl
 refine Q.wrapOO fun Kb27 hKb27=>?_;refine Z68_l27_qe  Kb27 ?_ ?_ _ _ ⟨Nat.succ_pos _,by omega⟩
 ·intro n27 s5_28;refine Qe (hKb27 _) ?_;try dsimp only
  refine Q.wrapPO fun Kj8 hKj8=>?_;have hj8:Z68_j8 a0 a1 =Kj8 ():=by
   refine Qe (hKj8 _) ?_;unfold Z68_j8;refine Q.wrapOO fun Kb12 hKb12=>?_;refine Z68_l12_qe  Kb12 ?_ ?_ _ _ ⟨Nat.succ_pos _,by omega⟩
   ·intro n12 s8_13;refine Qe (hKb12 _) ?_;try dsimp only
    refine Q.wrapPO fun Kj9 hKj9=>?_;have hj9:Z68_j9  =Kj9 ():=by
     refine Qe (hKj9 _) ?_;unfold Z68_j9;all_goals rfl
    all_goals exact hj9
   intro e12;refine Qe (hKb12 _) ?_;try dsimp only
   all_goals rfl
  all_goals exact hj8
 intro e27;refine Qe (hKb27 _) ?_;try dsimp only
 all_goals rfl
def Z128_q (a0:Int):Z11:=(Z11.mk (2:Int) a0 ([]:Bs) true ([]) (Sl.nil:Sl Bs))
theorem Z128_eq (a0:Int):Z128 a0=some (Z128_q a0):=by
 unfold Z128 Z128_q;all_goals rfl
def Z124_q (a0:Bool):Z11:=on (bif a0 then((Z11.mk ((Z11.mk (1:Int) (0:Int) ([]:Bs) true ([]) (Sl.nil:Sl Bs)).FKind) (1:Int) ((Z11.mk (1:Int) (0:Int) ([]:Bs) true ([]) (Sl.nil:Sl Bs)).FText) ((Z11.mk (1:Int) (0:Int) ([]:Bs) true ([]) (Sl.nil:Sl Bs)).FItems).nl ((Z11.mk (1:Int) (0:Int) ([]:Bs) true ([]) (Sl.nil:Sl Bs)).FItems).l ((Z11.mk (1:Int) (0:Int) ([]:Bs) true ([]) (Sl.nil:Sl Bs)).FKeys))) else((Z11.mk (1:Int) (0:Int) ([]:Bs) true ([]) (Sl.nil:Sl Bs)))) fun y4_l1=>y4_l1
theorem Z124_eq (a0:Bool):Z124 a0=some (Z124_q a0):=by
 unfold Z124 Z124_q;refine Q.wrapPP fun Kj3 hKj3=>?_;have hj3:∀(y4_l1:Z11),Z124_j3  y4_l1=Kj3 y4_l1:=by
  intro y4_l1;refine Qe (hKj3 _) ?_;unfold Z124_j3;all_goals rfl
 refine Q.condP ?_ ?_
 ·all_goals exact hj3 _
 all_goals exact hj3 _
def Z45_q (a0:Z9):Option Z10:=on (Z83_q a0.FKind) fun x3=>(normal_sels a0.FPicks x3).bind fun x4=>on (bif (decide (((a0.FPicks.l.length:Nat):Int)=(0:Int))) then(on (Z124_q true) fun x11=>(TOp.mk ((TOp.mk a0.FKind ([]:Bs) (Sl.nil:Sl TVar) x4).FKind) ((TOp.mk a0.FKind ([]:Bs) (Sl.nil:Sl TVar) x4).FName) ((TOp.mk a0.FKind ([]:Bs) (Sl.nil:Sl TVar) x4).FVars) (⟨false,[(TSel.mk (1:Int) ([]:Bs) ([95,95,116,121,112,101,110,97,109,101]:Bs) ([]:Bs) (Sl.nil:Sl TArg) (⟨false,[(TDir.mk ([115,107,105,112]:Bs) (⟨false,[(TArg.mk ([105,102]:Bs) x11)]⟩:Sl TArg))]⟩:Sl TDir) true ([]))]⟩:Sl TSel))) else((TOp.mk a0.FKind ([]:Bs) (Sl.nil:Sl TVar) x4))) fun y6_l1=>some (Z10.mk (⟨false,[y6_l1]⟩:Sl TOp) (Sl.nil:Sl Z5))
theorem Z45_eq (a0:Z9):Z45 a0=Z45_q a0:=by
 unfold Z45 Z45_q;refine Qs ?_;refine Q.bindPO (Z83_eq _) fun x3 hx_x3=>?_;refine Q.bindO rfl fun x4=>?_;refine Q.wrapPO fun Kj5 hKj5=>?_;have hj5:∀(y6_l1:TOp),Z45_j5  y6_l1=Kj5 y6_l1:=by
  intro y6_l1;refine Qe (hKj5 _) ?_;unfold Z45_j5;all_goals rfl
 refine Q.condP ?_ ?_
 ·refine Q.bindP (Z124_eq _) fun x11 hx_x11=>?_;all_goals exact hj5 _
 all_goals exact hj5 _
def Z73_q (a0:Int):Bs:=bif (decide (a0=(1:Int))) then(([81,117,101,114,121]:Bs)) else(bif (decide (a0=(2:Int))) then(([77,117,116,97,116,105,111,110]:Bs)) else(bif (decide (a0=(3:Int))) then(([83,117,98,115,99,114,105,112,116,105,111,110]:Bs)) else(([]:Bs))))
theorem Z73_eq (a0:Int):Z73 a0=some (Z73_q a0):=by
 unfold Z73 Z73_q;refine Q.condP ?_ ?_
 ·all_goals rfl
 refine Q.condP ?_ ?_
 ·all_goals rfl
 refine Q.condP ?_ ?_
 ·all_goals rfl
 all_goals rfl
def Z77_q (a0:Bs):Z11:=(Z11.mk (3:Int) (0:Int) a0 true ([]) (Sl.nil:Sl Bs))
theorem Z77_eq (a0:Bs):Z77 a0=some (Z77_q a0):=by
 unfold Z77 Z77_q;all_goals rfl
def Z74_q (a0:Z9):Option Z10:=on (Z73_q a0.FKind) fun x3=>(r19_selections x3 a0.FPicks).bind fun x4=>on (bif (decide (((x4.l.length:Nat):Int)=(0:Int))) then((⟨false,[(TSel.mk (1:Int) ([]:Bs) ([95,95,116,121,112,101,110,97,109,101]:Bs) ([]:Bs) (Sl.nil:Sl TArg) (⟨false,[(TDir.mk ([115,107,105,112]:Bs) (⟨false,[(TArg.mk ([105,102]:Bs) (Z11.mk (1:Int) (1:Int) ([]:Bs) true ([]) (Sl.nil:Sl Bs)))]⟩:Sl TArg))]⟩:Sl TDir) true ([]))]⟩:Sl TSel)) else(x4)) fun s3_6=>some (Z10.mk (⟨false,[(TOp.mk a0.FKind ([]:Bs) (Sl.nil:Sl TVar) s3_6)]⟩:Sl TOp) (Sl.nil:Sl Z5))
theorem Z74_eq (a0:Z9):Z74 a0=Z74_q a0:=by
 unfold Z74 Z74_q;refine Qs ?_;refine Q.bindPO (Z73_eq _) fun x3 hx_x3=>?_;refine Q.bindO rfl fun x4=>?_;refine Q.wrapPO fun Kj5 hKj5=>?_;have hj5:∀(s3_6:(Sl TSel)),Z74_j5 a0 s3_6=Kj5 s3_6:=by
  intro s3_6;refine Qe (hKj5 _) ?_;unfold Z74_j5;all_goals rfl
 refine Q.condP ?_ ?_
 ·all_goals exact hj5 _
 all_goals exact hj5 _
def Z38_q (a0:Z9):Option Bool:=(Z41_q a0.FPicks).bind fun x3=>guardO (!x3) (Z45_q a0) Z10.zero fun x4=>guardO (!x3) (Z74_q a0) Z10.zero fun x5=>guardO (!x3) (Z68_q x4 x5) false fun x6=>guardO ((x3||x6)) (Z40) false fun x7=>some ((x3||x6)&&x7)
theorem Z38_eq (a0:Z9):Z38 a0=Z38_q a0:=by
 unfold Z38 Z38_q;refine Qs ?_;refine Q.bindO (Z41_eq _) fun x3=>?_;refine Q.guardOO (Z45_eq _) fun x4=>?_;refine Q.guardOO (Z74_eq _) fun x5=>?_;refine Q.guardOO (Z68_eq _ _) fun x6=>?_;refine Q.guardOO rfl fun x7=>?_;all_goals rfl
end Go.Proofs

namespace Go.Proofs
open Go Go.Ab
theorem Z11.item_lt {v x:Z11}(h:x∈v.FItems.l):x.sz<v.sz:=by
 have h1:=v.sz_def; have h2:=Sl.mem_le (f:=Z11.sz) h; omega
theorem Z8.item_lt {p x:Z8}(h:x∈p.FPicks.l):x.sz<p.sz:=by
 have h1:=p.sz_def; have h2:=Sl.mem_le (f:=Z8.sz) h; omega
theorem Z8.arg_lt {p:Z8}{x:TArg}(h:x∈p.FArgs.l):x.FValue.sz<p.sz:=by
 have h1:=p.sz_def; have h2:=Sl.mem_le (f:=TArg.sz) h; have h3:=x.sz_def; omega
theorem Z8.label_lt (p:Z8):p.FLabel.length+6<=p.sz:=by
 have h1:=p.sz_def;have h2:Bs.sz p.FLabel=p.FLabel.length+1:=rfl;have h3:=Bs.sz_pos p.FKey;have h4:=Bs.sz_pos p.FOn;have h5:=Bs.sz_pos p.FName;have h6:=p.FType.pos;omega
end Go.Proofs

namespace Go.Proofs
open Go Go.Ab
def Gr (o:Option Int) (s:Int) (b:Nat):Prop:=∃r,o=some r/\s<=r/\r<=s+b
theorem Gr.refl (s:Int) (b:Nat):Gr (some s) s b:=⟨s,rfl,by omega,by omega⟩
theorem Gr.bind {o:Option Int}{k:Int->Option Int}{s:Int}{a b c:Nat}(h:Gr o s a) (hc:a+b<=c) (hk:∀r,s<=r->r<=s+a->Gr (k r) r b):Gr (o.bind k) s c:=by
 obtain⟨r,e,h1,h2⟩:=h;obtain⟨r2,e2,h3,h4⟩:=hk r h1 h2;exact⟨r2,by rw [e]; exact e2,by omega,by omega⟩
theorem Gr.add {x s:Int}{b:Nat}(hx:0<=x/\x<=b) (hs:0<=s/\s+b<=1099511627776):Gr (addC s x) s b:=⟨s+x,addC_ok (by omega),by omega,by omega⟩
theorem keys_w (a1:Int):∀(l:List Bs) (s:Int),0<=s->s+(l.map Bs.sz).sum<=1073741824->Gr (Z65_q23 a1 l s) s (l.map Bs.sz).sum
 | [],s,_,_=>Gr.refl _ _
 | a::r,s,h0,h=>by
  simp only [List.map_cons,List.sum_cons] at h ⊢;rw [Z65_q23];cases decide (s<=a1) with
  | false=>exact Gr.refl _ _
  | true =>
   simp only [cond_true,Ab.on];have hb:Bs.sz a=a.length+1:=rfl;refine Gr.bind (a:=1) (b:=a.length+(r.map Bs.sz).sum) (Gr.add (by omega) (by omega)) (by omega) fun x h1 h2=>?_;refine Gr.bind (a:=a.length) (b:=(r.map Bs.sz).sum) (Gr.add (by omega) (by omega)) (by omega) fun y h3 h4=>?_;exact keys_w a1 r y (by omega) (by omega)
theorem value_w (a1:Int) (n:Nat):∀v:Z11,v.sz<n->v.sz<=1048576->Gr (Z65_qn n v a1) 0 v.sz:=by
 induction n with
 | zero=>intro v h; omega
 | succ n ih =>
  intro v hn hs;have hd:=v.sz_def;have ht:Bs.sz v.FText=v.FText.length+1:=rfl;have hk:Sl.sz Bs.sz v.FKeys=1+(v.FKeys.l.map Bs.sz).sum:=rfl;have hi:Sl.sz Z11.sz v.FItems=1+(v.FItems.l.map Z11.sz).sum:=rfl;have hl:∀(l:List Z11) (s:Int),(∀x∈l,x.sz<n/\x.sz<=1048576)->0<=s->s+(l.map Z11.sz).sum<=1073741824->Gr (Z65_q11 a1 (Z65_qn n) l s) s (l.map Z11.sz).sum:=by
   intro l;induction l with
   | nil=>intro s _ _ _; exact Gr.refl _ _
   | cons a r ihl =>
    intro s hx h0 h;simp only [List.map_cons,List.sum_cons] at h ⊢;rw [Z65_q11];cases decide (s<=a1) with
    | false=>exact Gr.refl _ _
    | true =>
     simp only [cond_true,Ab.on];obtain⟨w,e,h1,h2⟩:=ih a (hx a (by simp)).1 (hx a (by simp)).2;rw [e,oB];refine Gr.bind (a:=a.sz) (b:=(r.map Z11.sz).sum) (Gr.add (by omega) (by omega)) (by omega) fun y h3 h4=>?_;exact ihl y (fun x hx'=>hx x (by simp [hx'])) (by omega) (by omega)
  rw [Z65_qn,addC_ok (by omega),oB];simp only [Ab.on];obtain⟨x,e1,x1,x2⟩:=keys_w a1 v.FKeys.l (1+(v.FText.length:Int)) (by omega) (by omega);rw [e1,oB];obtain⟨y,e2,y1,y2⟩:=hl v.FItems.l x (fun z hz=>by have:=Z11.item_lt hz; omega) (by omega) (by omega);rw [e2];exact⟨y,rfl,by omega,by omega⟩
theorem value_W (a1:Int) (v:Z11) (h:v.sz<=1048576):Gr (Z65_q v a1) 0 v.sz:=value_w a1 F0 v (by rw [F0_eq]; omega) h
end Go.Proofs

namespace Go.Proofs
open Go Go.Ab
theorem cmpB_zero:∀s t:Bs,Lib.compareBytes s t=0↔s=t
 | [],[]=>by simp [Lib.compareBytes]
 | [],_::_=>by simp [Lib.compareBytes]
 | _::_,[]=>by simp [Lib.compareBytes]
 | a::r,b::q=>by
  rw [Lib.compareBytes];by_cases h1:a<b
  ·rw [if_pos h1];exact⟨fun h=>(by cases h),fun h=>by cases h; exact absurd h1 (UInt8.lt_irrefl _)⟩
  ·rw [if_neg h1];by_cases h2:b<a
   ·rw [if_pos h2];exact⟨fun h=>(by cases h),fun h=>by cases h; exact absurd h2 (UInt8.lt_irrefl _)⟩
   ·rw [if_neg h2,cmpB_zero r q];have:a=b:=UInt8.le_antisymm (UInt8.not_lt.1 h2) (UInt8.not_lt.1 h1);rw [this]; simp
theorem cmpI (a b:Int):∃c,Z14 a b=some c/\(c=0↔a=b):=by
 unfold Z14 Z15;simp only [decide_true,Bool.not_true,oB,cond_false];by_cases h1:a<b
 ·rw [dT h1]; exact⟨-1,rfl,⟨fun h=>(by cases h),fun h=>by omega⟩⟩
 ·rw [dF h1];by_cases h2:b<a
  ·rw [dT h2]; exact⟨1,rfl,⟨fun h=>(by cases h),fun h=>by omega⟩⟩
  ·rw [dF h2]; exact⟨0,rfl,⟨fun _=>by omega,fun _=>rfl⟩⟩
theorem key_eq (v:Z11) (i:Nat):Z135 v (i:Int)=some (v.FKeys.l.getD i []):=by
 unfold Z135;by_cases h:i<v.FKeys.l.length
 ·have x1:idxC v.FKeys.l (i:Int)=some v.FKeys.l[i]:=by unfold idxC; rw [if_pos (by omega),Int.toNat_natCast,List.getElem?_eq_getElem h]
  rw [dT (by omega:((i:Nat):Int)<((v.FKeys.l.length:Nat):Int)),cond_true,x1,oB,List.getD_eq_getElem?_getD,List.getElem?_eq_getElem h]; rfl
 ·rw [dF (by omega:¬((i:Nat):Int)<((v.FKeys.l.length:Nat):Int)),cond_false,List.getD_eq_getElem?_getD,List.getElem?_eq_none (by omega)]; rfl
def AtR (R:Z11->Z11->Prop) (v w:Z11) (j:Nat):Prop:=v.FKeys.l.getD j []=w.FKeys.l.getD j []/\∃x y,v.FItems.l[j]?=some x/\w.FItems.l[j]?=some y/\R x y
def EqV:Nat->Z11->Z11->Prop
 | 0,_,_=>False
 | n+1,v,w=>v.FKind=w.FKind/\v.FInt=w.FInt/\v.FText=w.FText/\v.FItems.l.length=w.FItems.l.length/\∀j,0<=j->j<v.FItems.l.length->AtR (EqV n) v w j
theorem EqV.refl:∀{n:Nat}{v:Z11},v.sz<n->EqV n v v
 | 0,_,h=>by omega
 | n+1,v,h=>⟨rfl,rfl,rfl,rfl,fun j _ hj=>⟨rfl,_,_,List.getElem?_eq_getElem hj,List.getElem?_eq_getElem hj,EqV.refl (by have:=Z11.item_lt (List.getElem_mem hj); omega)⟩⟩
theorem l37_spec {v w:Z11}{rec:Z11->Z11->Option Int}{k:Int->Int->Option Int}{n:Nat}(hk:∀z,k z 1=some z) (hrec:∀x∈v.FItems.l,∀y∈w.FItems.l,∃c,rec x y=some c/\(c=0↔EqV n x y)) (hl:v.FItems.l.length<=1048576) :
  ∀(f i:Nat),i<=min v.FItems.l.length w.FItems.l.length->min v.FItems.l.length w.FItems.l.length-i<f ->
   ∃c,Z125_l37 v w 0 k rec f (i:Int)=some c/\(c=0↔(v.FItems.l.length=w.FItems.l.length/\∀j,i<=j->j<v.FItems.l.length->AtR (EqV n) v w j))
 | 0,_,_,h=>by omega
 | f+1,i,h1,h2=>by
  have hm:(if ((w.FItems.l.length:Nat):Int)<((v.FItems.l.length:Nat):Int) then((w.FItems.l.length:Nat):Int) else((v.FItems.l.length:Nat):Int))=((min v.FItems.l.length w.FItems.l.length:Nat):Int):=by split<;>omega
  rw [Z125_l37,hm];by_cases hi:i<min v.FItems.l.length w.FItems.l.length
  ·have k1:i<v.FItems.l.length:=by omega
   have k2:i<w.FItems.l.length:=by omega
   have x1:idxC v.FItems.l (i:Int)=some v.FItems.l[i]:=by unfold idxC; rw [if_pos (by omega),Int.toNat_natCast,List.getElem?_eq_getElem k1]
   have x2:idxC w.FItems.l (i:Int)=some w.FItems.l[i]:=by unfold idxC; rw [if_pos (by omega),Int.toNat_natCast,List.getElem?_eq_getElem k2]
   have ha:addC (i:Int) 1=some ((i+1:Nat):Int):=by rw [addC_ok (by omega)]; rfl
   rw [dT (by omega:((i:Nat):Int)<((min v.FItems.l.length w.FItems.l.length:Nat):Int)),cond_true,key_eq,oB,key_eq,oB,show Z109 (v.FKeys.l.getD i []) (w.FKeys.l.getD i [])=some (Lib.compareBytes (v.FKeys.l.getD i []) (w.FKeys.l.getD i [])) from rfl,oB];have hc:=cmpB_zero (v.FKeys.l.getD i []) (w.FKeys.l.getD i []);by_cases c0:Lib.compareBytes (v.FKeys.l.getD i []) (w.FKeys.l.getD i [])=0
   ·rw [dT c0,Bool.not_true,cond_false,x1,oB,x2,oB];obtain⟨c,e1,e2⟩:=hrec _ (List.getElem_mem k1) _ (List.getElem_mem k2);rw [e1,oB];by_cases c1:c=0
    ·rw [dT c1,Bool.not_true,cond_false,ha,oB];obtain⟨z,z1,z2⟩:=l37_spec hk hrec hl f (i+1) (by omega) (by omega);refine⟨z,z1,z2.trans ⟨fun⟨u1,u2⟩=>⟨u1,fun j j1 j2=>?_⟩,fun⟨u1,u2⟩=>⟨u1,fun j j1 j2=>u2 j (by omega) j2⟩⟩⟩;rcases Nat.lt_or_ge i j with j3|j3
     ·exact u2 j j3 j2
     ·obtain rfl:j=i:=by omega
      exact⟨hc.1 c0,_,_,List.getElem?_eq_getElem k1,List.getElem?_eq_getElem k2,e2.1 c1⟩
    ·rw [dF c1,Bool.not_false,cond_true];refine⟨c,rfl,⟨fun h=>absurd h c1,fun⟨u1,u2⟩=>?_⟩⟩;obtain⟨_,x,y,g1,g2,g3⟩:=u2 i (Nat.le_refl _) k1;rw [List.getElem?_eq_getElem k1] at g1; rw [List.getElem?_eq_getElem k2] at g2;cases g1; cases g2;exact e2.2 g3
   ·rw [dF c0,Bool.not_false,cond_true];refine⟨_,rfl,⟨fun h=>absurd h c0,fun⟨u1,u2⟩=>hc.2 (u2 i (Nat.le_refl _) k1).1⟩⟩
  ·rw [dF (by omega:¬((i:Nat):Int)<((min v.FItems.l.length w.FItems.l.length:Nat):Int)),cond_false];obtain⟨c,e1,e2⟩:=cmpI ((v.FItems.l.length:Nat):Int) ((w.FItems.l.length:Nat):Int);unfold Z125_j30 Z125_j14;rw [e1,oB,addC_ok (by omega),oB];refine⟨c,hk c,e2.trans ⟨fun h=>⟨by omega,fun j j1 j2=>by omega⟩,fun⟨h,_⟩=>by rw [h]⟩⟩
theorem cmpV (n:Nat):∀v w:Z11,v.sz<n->v.sz<=1048576->∃c,Z125_n n v w=some c/\(c=0↔EqV n v w):=by
 induction n with
 | zero=>intro v w h; omega
 | succ n ih =>
  intro v w hn hs;have hd:=v.sz_def;have hi:Sl.sz Z11.sz v.FItems=1+(v.FItems.l.map Z11.sz).sum:=rfl;have hl:=Sl.len_le (f:=Z11.sz) v.FItems (fun x=>x.pos);obtain⟨m,hm⟩:∃m,F0=m+1+1:=⟨F0-2,by rw [F0_eq]⟩;rw [Z125_n,show Z125_l8 v w (Z125_n n) F0 0 0=Z125_l8 v w (Z125_n n) (m+1+1) 0 0 from by rw [<- hm],Z125_l8,show decide ((0:Int)<1)=true from rfl,cond_true];by_cases c1:v.FKind=w.FKind
  ·rw [dT c1,Bool.not_true,cond_false];by_cases c2:v.FInt=w.FInt
   ·rw [dT c2,Bool.not_true,cond_false];by_cases c3:v.FText=w.FText
    ·rw [beq_iff_eq.mpr c3,Bool.not_true,cond_false];obtain⟨c,e1,e2⟩:=l37_spec (v:=v) (w:=w) (rec:=Z125_n n) (k:=Z125_l8 v w (Z125_n n) (m+1)) (n:=n) (fun z=>by rw [Z125_l8,show decide ((1:Int)<1)=false from rfl,cond_false]; rfl)
      (fun x hx y _=>ih x y (by have:=Z11.item_lt hx; omega) (by have:=Z11.item_lt hx; omega)) (by omega) F0 0 (Nat.zero_le _) (by rw [F0_eq]; omega)
     exact⟨c,e1,e2.trans ⟨fun⟨u1,u2⟩=>⟨c1,c2,c3,u1,u2⟩,fun⟨_,_,_,u1,u2⟩=>⟨u1,u2⟩⟩⟩
    ·rw [show (v.FText==w.FText)=false from beq_eq_false_iff_ne.mpr c3,Bool.not_false,cond_true,show Z109 v.FText w.FText=some (Lib.compareBytes v.FText w.FText) from rfl,oB];exact⟨_,rfl,⟨fun h=>absurd ((cmpB_zero _ _).1 h) c3,fun⟨_,_,h,_⟩=>absurd h c3⟩⟩
   ·obtain⟨c,e1,e2⟩:=cmpI v.FInt w.FInt;rw [dF c2,Bool.not_false,cond_true,e1,oB];exact⟨c,rfl,⟨fun h=>absurd (e2.1 h) c2,fun⟨_,h,_⟩=>absurd h c2⟩⟩
  ·obtain⟨c,e1,e2⟩:=cmpI v.FKind w.FKind;rw [dF c1,Bool.not_false,cond_true,e1,oB];exact⟨c,rfl,⟨fun h=>absurd (e2.1 h) c1,fun⟨h,_⟩=>absurd h c1⟩⟩
def vsX (v w:Z11):Bool:=(Z130_q v w).getD false
theorem vsame {v w:Z11}(hv:v.sz<=1048576):Z130_q v w=some (vsX v w)/\(vsX v w=true↔EqV F0 v w):=by
 obtain⟨c,e1,e2⟩:=cmpV F0 v w (by rw [F0_eq]; omega) hv;have e:Z130_q v w=some (decide (c=0)):=by unfold Z130_q Z125; rw [e1]; rfl
 have e':vsX v w=decide (c=0):=by unfold vsX; rw [e]; rfl
 rw [e'];exact⟨e,by rw [decide_eq_true_iff]; exact e2⟩
end Go.Proofs

namespace Go.Proofs
open Go Go.Ab
theorem less_irr:∀x:Bs,Op.bytesLess x x=false
 | []=>by simp [Op.bytesLess]
 | a::x=>by rw [Op.bytesLess,less_irr x]; simp
theorem rints (a b:Int):Z62_q a b=0↔a=b:=by
 unfold Z62_q;by_cases h1:a<b
 ·rw [dT h1,cond_true]; exact⟨fun h=>(by cases h),fun h=>by omega⟩
 ·rw [dF h1,cond_false];by_cases h2:b<a
  ·rw [dT h2,cond_true]; exact⟨fun h=>(by cases h),fun h=>by omega⟩
  ·rw [dF h2,cond_false]; exact⟨fun _=>by omega,fun _=>rfl⟩
theorem rstrings (a b:Bs):Z64_q a b=0↔a=b:=by
 unfold Z64_q;cases h1:Op.bytesLess a b
 ·rw [cond_false,Bool.false_or];by_cases h2:a=b
  ·rw [beq_iff_eq.mpr h2]; exact⟨fun _=>h2,fun _=>rfl⟩
  ·rw [show (a==b)=false from beq_eq_false_iff_ne.mpr h2]; exact⟨fun h=>(by cases h),fun h=>absurd h h2⟩
 ·rw [cond_true];exact⟨fun h=>(by cases h),fun h=>by rw [h,less_irr] at h1; cases h1⟩
theorem rkey (v:Z11) (i:Nat):Z63 v (i:Int)=some (v.FKeys.l.getD i []):=by
 rw [Z63_eq]; exact key_eq v i
theorem l12_spec {v w:Z11}{rec:Z11->Z11->Option Int}{n:Nat}(hrec:∀x∈v.FItems.l,∀y∈w.FItems.l,∃c,rec x y=some c/\(c=0↔EqV n x y)) (hl:v.FItems.l.length<=1048576) :
  ∀(f i:Nat) (c:Int),i<=min v.FItems.l.length w.FItems.l.length->min v.FItems.l.length w.FItems.l.length-i<f ->
   ∃z,Z60_l12 v w rec f c (i:Int)=some z/\(z=0↔(c=0/\v.FItems.l.length=w.FItems.l.length/\∀j,i<=j->j<v.FItems.l.length->AtR (EqV n) v w j))
 | 0,_,_,_,h=>by omega
 | f+1,i,c,h1,h2=>by
  rw [Z60_l12];by_cases hc:c=0
  ·rw [dT hc,cond_true];by_cases hi:i<min v.FItems.l.length w.FItems.l.length
   ·have k1:i<v.FItems.l.length:=by omega
    have k2:i<w.FItems.l.length:=by omega
    have x1:idxC v.FItems.l (i:Int)=some v.FItems.l[i]:=by unfold idxC; rw [if_pos (by omega),Int.toNat_natCast,List.getElem?_eq_getElem k1]
    have x2:idxC w.FItems.l (i:Int)=some w.FItems.l[i]:=by unfold idxC; rw [if_pos (by omega),Int.toNat_natCast,List.getElem?_eq_getElem k2]
    have ha:addC (i:Int) 1=some ((i+1:Nat):Int):=by rw [addC_ok (by omega)]; rfl
    have g:(decide (((v.FItems.l.length:Nat):Int)<=(i:Int))||decide (((w.FItems.l.length:Nat):Int)<=(i:Int)))=false:=by
     rw [Bool.or_eq_false_iff,decide_eq_false_iff_not,decide_eq_false_iff_not]; omega
    rw [g,cond_false,rkey,oB,rkey,oB,Z64_eq,oB];have hk:=rstrings (v.FKeys.l.getD i []) (w.FKeys.l.getD i []);by_cases c0:Z64_q (v.FKeys.l.getD i []) (w.FKeys.l.getD i [])=0
    ·rw [dT c0,cond_true,x1,oB,x2,oB];obtain⟨d,e1,e2⟩:=hrec _ (List.getElem_mem k1) _ (List.getElem_mem k2);rw [e1,oB];unfold Z60_j18;rw [ha,oB];obtain⟨z,z1,z2⟩:=l12_spec hrec hl f (i+1) d (by omega) (by omega);refine⟨z,z1,z2.trans ⟨fun⟨u0,u1,u2⟩=>⟨hc,u1,fun j j1 j2=>?_⟩,fun⟨_,u1,u2⟩=>⟨?_,u1,fun j j1 j2=>u2 j (by omega) j2⟩⟩⟩
     ·rcases Nat.lt_or_ge i j with j3|j3
      ·exact u2 j j3 j2
      ·obtain rfl:j=i:=by omega
       exact⟨hk.1 c0,_,_,List.getElem?_eq_getElem k1,List.getElem?_eq_getElem k2,e2.1 u0⟩
     ·obtain⟨_,x,y,g1,g2,g3⟩:=u2 i (Nat.le_refl _) k1;rw [List.getElem?_eq_getElem k1] at g1; rw [List.getElem?_eq_getElem k2] at g2;cases g1; cases g2;exact e2.2 g3
    ·rw [dF c0,cond_false];unfold Z60_j18;rw [ha,oB];obtain⟨z,z1,z2⟩:=l12_spec hrec hl f (i+1) (Z64_q (v.FKeys.l.getD i []) (w.FKeys.l.getD i [])) (by omega) (by omega);exact⟨z,z1,z2.trans ⟨fun⟨u0,_⟩=>absurd u0 c0,fun⟨_,u1,u2⟩=>absurd (hk.2 (u2 i (Nat.le_refl _) k1).1) c0⟩⟩
   ·have g:(decide (((v.FItems.l.length:Nat):Int)<=(i:Int))||decide (((w.FItems.l.length:Nat):Int)<=(i:Int)))=true:=by
     rw [Bool.or_eq_true,decide_eq_true_eq,decide_eq_true_eq]; omega
    rw [g,cond_true,Z62_eq,oB];have hi2:=rints ((v.FItems.l.length:Nat):Int) ((w.FItems.l.length:Nat):Int);exact⟨_,rfl,hi2.trans ⟨fun h=>⟨hc,by omega,fun j j1 j2=>by omega⟩,fun⟨_,h,_⟩=>by rw [h]⟩⟩
  ·rw [dF hc,cond_false];exact⟨c,rfl,⟨fun h=>absurd h hc,fun⟨h,_⟩=>h⟩⟩
theorem rcmpV (n:Nat):∀v w:Z11,v.sz<n->v.sz<=1048576->∃c,Z60_n n v w=some c/\(c=0↔EqV n v w):=by
 induction n with
 | zero=>intro v w h; omega
 | succ n ih =>
  intro v w hn hs;have hd:=v.sz_def;have hi:Sl.sz Z11.sz v.FItems=1+(v.FItems.l.map Z11.sz).sum:=rfl;have hl:=Sl.len_le (f:=Z11.sz) v.FItems (fun x=>x.pos);have j6:∀c:Int,∃z,Z60_j6 v w (Z60_n n) c=some z/\(z=0↔(c=0/\v.FItems.l.length=w.FItems.l.length/\∀j,0<=j->j<v.FItems.l.length->AtR (EqV n) v w j)):=fun c =>
   l12_spec (v:=v) (w:=w) (rec:=Z60_n n) (n:=n) (fun x hx y _=>ih x y (by have:=Z11.item_lt hx; omega) (by have:=Z11.item_lt hx; omega)) (by omega) F0 0 c (Nat.zero_le _) (by rw [F0_eq]; omega)
  have j4:∀c:Int,∃z,Z60_j4 v w (Z60_n n) c=some z/\(z=0↔(c=0/\v.FText=w.FText/\v.FItems.l.length=w.FItems.l.length/\∀j,0<=j->j<v.FItems.l.length->AtR (EqV n) v w j)):=by
   intro c;unfold Z60_j4;by_cases hc:c=0
   ·rw [dT hc,cond_true,Z64_eq,oB];obtain⟨z,z1,z2⟩:=j6 (Z64_q v.FText w.FText);exact⟨z,z1,z2.trans (by rw [rstrings]; exact⟨fun⟨a,b⟩=>⟨hc,a,b⟩,fun⟨_,a,b⟩=>⟨a,b⟩⟩)⟩
   ·rw [dF hc,cond_false];obtain⟨z,z1,z2⟩:=j6 c;exact⟨z,z1,z2.trans ⟨fun⟨a,_⟩=>absurd a hc,fun⟨a,_⟩=>absurd a hc⟩⟩
  rw [Z60_n,Z62_eq,oB];have hk:=rints v.FKind w.FKind;have hn:=rints v.FInt w.FInt;by_cases c1:Z62_q v.FKind w.FKind=0
  ·rw [dT c1,cond_true,Z62_eq,oB];obtain⟨z,z1,z2⟩:=j4 (Z62_q v.FInt w.FInt);exact⟨z,z1,z2.trans ⟨fun⟨a,b,c,d⟩=>⟨hk.1 c1,hn.1 a,b,c,d⟩,fun⟨_,a,b,c,d⟩=>⟨hn.2 a,b,c,d⟩⟩⟩
  ·rw [dF c1,cond_false];obtain⟨z,z1,z2⟩:=j4 (Z62_q v.FKind w.FKind);exact⟨z,z1,z2.trans ⟨fun⟨a,_⟩=>absurd a c1,fun⟨a,_⟩=>absurd (hk.2 a) c1⟩⟩
theorem rsame_is {v w:Z11}(hv:v.sz<=1048576):Z61_q v w=some (vsX v w):=by
 obtain⟨c,e1,e2⟩:=rcmpV F0 v w (by rw [F0_eq]; omega) hv;have e:Z61_q v w=some (decide (c=0)):=by unfold Z61_q Z60; rw [e1]; rfl
 rw [e]
 congr 1
 rw [Bool.eq_iff_iff,decide_eq_true_iff,(vsame hv).2];exact e2
end Go.Proofs

namespace Go.Proofs
open Go Go.Ab
theorem appN {α:Type}{z:Nat}{s r:Sl α}(hz:z<=200) (h:s.l.length+r.l.length<=10000000):appC z s r=some ⟨s.nl&&r.l.isEmpty,s.l++r.l⟩:=by
 unfold appC; rw [if_pos];have h1:(s.l.length+r.l.length)*z<=10000000*200:=Nat.mul_le_mul h hz;unfold maxN; omega
theorem all2_sum {α β:Type}{f:α->Nat}{g:β->Nat}{R:α->β->Prop}(hr:∀a b,R a b->f a=g b){t:List α}{l:List β}(h:All2 R t l):(t.map f).sum=(l.map g).sum:=by
 induction h with
 | nil=>rfl
 | cons h _ ih=>simp only [List.map_cons,List.sum_cons,ih,hr _ _ h]
theorem cloneN {s:Sl Bs}(h:s.nl=true->s.l=[]) (hl:s.l.length<=1048576):∃r,Z87_q s=some r/\r.l=s.l:=by
 unfold Z87_q;cases hn:s.nl with
 | true=>exact⟨Sl.nil,rfl,(h hn).symm⟩
 | false=>rw [cond_false,appN (by omega) (by simp; omega)]; exact⟨_,rfl,by simp⟩
theorem copy_eqv:∀(n:Nat){v:Z11},v.sz<n->v.wf->v.sz<=1048576->∀m,2*n<=m->∃r,value_Copy_qn m v=some r/\EqV n r v/\r.sz=v.sz
 | 0,_,h,_,_,_,_=>by omega
 | n+1,v,hn,hw,hs,m,hm=>by
  obtain⟨m1,rfl⟩:∃m1,m=m1+1+1:=⟨m-2,by omega⟩;have hd:=v.sz_def;have hk:=Sl.len_le (f:=Bs.sz) v.FKeys Bs.sz_pos;have hi:=Sl.len_le (f:=Z11.sz) v.FItems (fun x=>x.pos);have hl:∀(l:List Z11) (s:Sl Z11),(∀x∈l,x.sz<n/\x.wf/\x.sz<=1048576)->s.l.length+l.length<=2097152->∃s':Sl Z11,Z133_q8 (value_Copy_qn m1) l s=some s'/\∃t,s'.l=s.l++t/\All2 (fun a b:Z11=>EqV n a b/\a.sz=b.sz) t l:=by
   intro l;induction l with
   | nil=>intro s _ _; exact⟨s,rfl,[],by simp,.nil⟩
   | cons a r ih =>
    intro s hx hb;simp only [List.length_cons] at hb;obtain⟨h1,h2,h3⟩:=hx a List.mem_cons_self;obtain⟨c,e1,e2,e3⟩:=copy_eqv n h1 h2 h3 m1 (by omega);rw [Z133_q8];simp only [Ab.on,e1,oB];rw [appN (by omega) (by simp; omega),oB];obtain⟨s',f1,t,f2,f3⟩:=ih ⟨s.nl&&[c].isEmpty,s.l++[c]⟩ (fun x hx'=>hx x (List.mem_cons_of_mem _ hx')) (by simp; omega);exact⟨s',f1,c::t,by rw [f2]; simp,.cons ⟨e2,e3⟩ f3⟩
  obtain⟨s',e1,t,e2,e3⟩:=hl v.FItems.l Sl.nil (fun x hx=>⟨by have:=Z11.item_lt hx; omega,(Z11.FItems_wf hw).2.2 x hx,by have:=Z11.item_lt hx; omega⟩) (by simp [Sl.nil]; omega);obtain⟨k,e4,e5⟩:=cloneN (Z11.FKeys_wf hw).1 (by omega);rw [value_Copy_qn,Z133_qn,e1,oB];simp only [Ab.on,oB,e4];have e2':s'.l=t:=by rw [e2]; rfl
  have hlen:=e3.length;refine⟨_,rfl,⟨rfl,rfl,rfl, ?_,fun j _ hj=>⟨?_, ?_⟩⟩, ?_⟩
  ·show s'.l.length=_; rw [e2',hlen]
  ·show k.l.getD j []=_; rw [e5]
  ·have hj':j<s'.l.length:=hj;rw [e2',hlen] at hj';obtain⟨x,f1,f2,_⟩:=e3.get' (List.getElem?_eq_getElem hj');exact⟨x,_,(show s'.l[j]?=_ by rw [e2']; exact f1),List.getElem?_eq_getElem hj',f2⟩
  ·rw [Z11.sz_def,hd];have g1:Sl.sz Z11.sz (Z11.mk v.FKind v.FInt v.FText s'.nl s'.l k).FItems=Sl.sz Z11.sz v.FItems:=by
    show 1+(s'.l.map Z11.sz).sum=1+(v.FItems.l.map Z11.sz).sum;rw [e2',all2_sum (fun a b h=>h.2) e3]
   have g2:Sl.sz Bs.sz (Z11.mk v.FKind v.FInt v.FText s'.nl s'.l k).FKeys=Sl.sz Bs.sz v.FKeys:=by
    show 1+(k.l.map Bs.sz).sum=1+(v.FKeys.l.map Bs.sz).sum;rw [e5]
   rw [g1,g2]; rfl
theorem copyV {v:Z11}(hw:v.wf) (hs:v.sz<=1048576):∃r,value_Copy v=some r/\EqV F0 r v/\r.sz<=1048576:=by
 obtain⟨r,e1,e2,e3⟩:=copy_eqv (v.sz+1) (nS _) hw hs F0 (by rw [F0_eq]; omega);refine⟨r,(by rw [value_Copy_eq]; exact e1), ?_,by omega⟩;have mono:∀{n m:Nat}{a b:Z11},n<=m->EqV n a b->EqV m a b:=by
  intro n;induction n with
  | zero=>intro m a b _ h; exact h.elim
  | succ n ih =>
   intro m a b hm h;obtain⟨m1,rfl⟩:∃m1,m=m1+1:=⟨m-1,by omega⟩;obtain⟨a1,a2,a3,a4,a5⟩:=h;exact⟨a1,a2,a3,a4,fun j h0 hj=>by obtain⟨k,x,y,k1,k2,k3⟩:=a5 j h0 hj; exact⟨k,x,y,k1,k2,ih (by omega) k3⟩⟩
 exact mono (by rw [F0_eq]; omega) e2
def EqA (x y:TArg):Prop:=x.FName=y.FName/\x.FValue.sz<=1048576/\EqV F0 x.FValue y.FValue
def EqDr (x y:TDir):Prop:=x.FName=y.FName/\All2 EqA x.FArgs.l y.FArgs.l
def EqS:Nat->TSel->TSel->Prop
 | 0,_,_=>False
 | n+1,x,y=>x.FKind=y.FKind/\x.FAlias=y.FAlias/\x.FName=y.FName/\x.FOn=y.FOn/\All2 EqA x.FArgs.l y.FArgs.l/\All2 EqDr x.FDirs.l y.FDirs.l/\All2 (EqS n) x.FSels.l y.FSels.l
theorem EqS.mono:∀{n m:Nat}{a b:TSel},n<=m->EqS n a b->EqS m a b
 | 0,_,_,_,_,h=>h.elim
 | n+1,0,_,_,hn,_=>by omega
 | n+1,m+1,_,_,hn,⟨a,b,c,d,e,f,g⟩=>⟨a,b,c,d,e,f,g.imp fun _ _ h=>EqS.mono (by omega) h⟩
theorem eqA_refl {x:TArg}(h:x.FValue.sz<=1048576):EqA x x:=⟨rfl,h,EqV.refl (by rw [F0_eq]; omega)⟩
theorem drop_at {α:Type}{l:List α}{i:Nat}{y:α}{r:List α}(h:l.drop i=y::r):l[i]?=some y/\l.drop (i+1)=r:=by
 have h1:(l.drop i)[0]?=some y:=by rw [h]; rfl
 have h2:(l.drop i).drop 1=r:=by rw [h]; rfl
 rw [List.getElem?_drop] at h1;rw [List.drop_drop] at h2;exact⟨by simpa using h1,by rw [Nat.add_comm] at h2; first|exact h2|(rw [Nat.add_comm]; exact h2)⟩
theorem sameArgs_l {a1:Sl TArg}:∀(l:List TArg) (s:Nat),All2 EqA l (a1.l.drop s)->Z69_q11 a1 l s=some (Sum.inl ())
 | [],_,_=>rfl
 | x::r,s,h=>by
  generalize hd:a1.l.drop s=d at h;cases h with
  | @cons _ y _ ys hxy hr =>
   obtain⟨h1,h2⟩:=drop_at hd;obtain⟨n1,n2,n3⟩:=hxy;rw [Z69_q11];simp only [Ab.on,h1,oB,n1,beq_self_eq_true,Bool.not_true,Bool.not_false,cond_true,guardO,if_true,rsame_is n2,(vsame n2).2.2 n3,Bool.or_false,cond_false];exact sameArgs_l r (s+1) (by rw [h2]; exact hr)
theorem sameArgs {a b:Sl TArg}(h:All2 EqA a.l b.l):Z69_q a b=some true:=by
 unfold Z69_q;rw [h.length,dT rfl,Bool.not_true,cond_false,sameArgs_l _ _ (by simpa using h)];rfl
theorem sameDirs_l {a1:Sl TDir}:∀(l:List TDir) (s:Nat),All2 EqDr l (a1.l.drop s)->Z70_q11 a1 l s=some (Sum.inl ())
 | [],_,_=>rfl
 | x::r,s,h=>by
  generalize hd:a1.l.drop s=d at h;cases h with
  | @cons _ y _ ys hxy hr =>
   obtain⟨h1,h2⟩:=drop_at hd;obtain⟨n1,n2⟩:=hxy;rw [Z70_q11];simp only [Ab.on,h1,oB,n1,beq_self_eq_true,Bool.not_true,Bool.not_false,cond_true,guardO,if_true,sameArgs n2,Bool.or_false,cond_false];exact sameDirs_l r (s+1) (by rw [h2]; exact hr)
theorem sameDirs {a b:Sl TDir}(h:All2 EqDr a.l b.l):Z70_q a b=some true:=by
 unfold Z70_q;rw [h.length,dT rfl,Bool.not_true,cond_false,sameDirs_l _ _ (by simpa using h)];rfl
theorem sameSels_n:∀(n m:Nat){a b:Sl TSel},n<m->All2 (EqS n) a.l b.l->Z71_qn m a b=some true
 | n,0,_,_,hm,_=>by omega
 | n,m+1,a,b,hm,h=>by
  have hl:∀(l:List TSel) (s:Nat),All2 (EqS n) l (b.l.drop s)->Z71_q11 b (Z71_qn m) l s=some (Sum.inl ()):=by
   intro l;induction l with
   | nil=>intro s _; rfl
   | cons x r ih =>
    intro s h;generalize hd:b.l.drop s=d at h;cases h with
    | @cons _ y _ ys hxy hr =>
     obtain⟨h1,h2⟩:=drop_at hd;cases n with
     | zero=>exact hxy.elim
     | succ n =>
      obtain⟨n1,n2,n3,n4,n5,n6,n7⟩:=hxy;rw [Z71_q11];have hk:=sameSels_n n m (by omega) n7;simp only [Ab.on,h1,oB,n1,n2,n3,n4,decide_true,beq_self_eq_true,Bool.not_true,Bool.not_false,cond_true,guardO,if_true,sameArgs n5,sameDirs n6,hk,Bool.or_false,cond_false];exact ih (s+1) (by rw [h2]; exact hr)
  rw [Z71_qn,h.length,dT rfl,Bool.not_true,cond_false,hl _ _ (by simpa using h)];rfl
theorem sameSels {n:Nat}{a b:Sl TSel}(hn:n<=10000000) (h:All2 (EqS n) a.l b.l):Z71_q a b=some true:=sameSels_n n F0 (by rw [F0_eq]; omega) h
end Go.Proofs

namespace Go.Proofs
open Go Go.Ab
def setA (y:TSel) (a:Sl TArg):TSel:=TSel.mk y.FKind y.FAlias y.FName y.FOn a y.FDirs y.FSels.nl y.FSels.l
theorem setA_self (y:TSel):setA y y.FArgs=y:=by cases y; rfl
theorem idxN {α:Type}(l:List α) (i:Nat):idxC l (i:Int)=l[i]?:=by unfold idxC; rw [if_pos (by omega)]; simp
theorem l18_spec (p:Z8) (hx:∀x∈p.FArgs.l,x.FValue.wf/\x.FValue.sz<=1048576) (hl:p.FArgs.l.length<=1048576) :
  ∀(f i:Nat) (y:TSel),All2 EqA y.FArgs.l (p.FArgs.l.take i)->i<=p.FArgs.l.length->p.FArgs.l.length-i<f->∃a:Sl TArg,Z51_l18 p f i y=Z51_j7 p (setA y a)/\All2 EqA a.l p.FArgs.l
 | 0,_,_,_,_,h=>by omega
 | f+1,i,y,hy,hi,hf=>by
  rw [Z51_l18];by_cases hlt:i<p.FArgs.l.length
  ·have hg:p.FArgs.l[i]?=some p.FArgs.l[i]:=List.getElem?_eq_getElem hlt;obtain⟨w,s⟩:=hx _ (List.getElem_mem hlt);obtain⟨r,e1,e2,e3⟩:=copyV w s;have hle:=hy.length;rw [List.length_take,Nat.min_eq_left hi] at hle;rw [dT (by omega:((i:Nat):Int)<((p.FArgs.l.length:Nat):Int)),cond_true,hg,oB,e1,oB,appN (by omega) (by simp; omega),oB];obtain⟨a,g1,g2⟩:=l18_spec p hx hl f (i+1) (setA y ⟨y.FArgs.nl&&[TArg.mk (p.FArgs.l[i]).FName r].isEmpty,y.FArgs.l++[TArg.mk (p.FArgs.l[i]).FName r]⟩) (by
    show All2 EqA (y.FArgs.l++[TArg.mk (p.FArgs.l[i]).FName r]) (p.FArgs.l.take (i+1));rw [List.take_add_one,hg];exact hy.append (.cons ⟨rfl,e3,e2⟩ .nil)) (by omega) (by omega)
   exact⟨a,g1,g2⟩
  ·rw [dF (by omega:¬((i:Nat):Int)<((p.FArgs.l.length:Nat):Int)),cond_false];refine⟨y.FArgs,by rw [setA_self], ?_⟩;rw [List.take_of_length_le (by omega)] at hy;exact hy
theorem j5_spec (p:Z8) (hx:∀x∈p.FArgs.l,x.FValue.wf/\x.FValue.sz<=1048576) (hl:p.FArgs.l.length<=1048576) (y:TSel) (hy:y.FArgs.l=[]) :
  ∃a:Sl TArg,Z51_j5 p y=Z51_j7 p (setA y a)/\All2 EqA a.l p.FArgs.l:=by
 unfold Z51_j5;exact l18_spec p hx hl _ 0 y (by rw [hy]; exact .nil) (Nat.zero_le _) (by omega)
theorem j7_spec (p:Z8) (y:TSel) (hy:y.FDirs=Sl.nil):∃d:Sl TDir,Z51_j7 p y=some (TSel.mk y.FKind y.FAlias y.FName y.FOn y.FArgs d y.FSels.nl y.FSels.l) /\
  (∀(k:Bs->Sl Z8->Option (Sl TSel)) (z:TSel),z.FDirs=Sl.nil->∃d':Sl TDir,Z76_j3 p k z=Z76_j5 p k (TSel.mk z.FKind z.FAlias z.FName z.FOn z.FArgs d' z.FSels.nl z.FSels.l)/\All2 EqDr d.l d'.l):=by
 unfold Z51_j7 Z76_j3;by_cases hi:p.FInitial = -1
 ·rw [dT hi,Bool.not_true];refine⟨Sl.nil, ?_,fun k z hz=>⟨Sl.nil, ?_,.nil⟩⟩
  ·rw [cond_false]; unfold Z51_j9;rw [<- hy]; cases y; rfl
  ·rw [cond_false,<- hz]; cases z; rfl
 ·rw [dF hi,Bool.not_false];refine⟨_,(by rw [cond_true,Z132_eq,oB,Z128_eq,oB]; rfl),fun k z hz=>⟨_,(by rw [cond_true,Z77_eq,oB]), ?_⟩⟩;refine .cons ⟨rfl,.cons ?_ (.cons ?_ .nil)⟩ .nil
  ·exact eqA_refl (by show Z11.sz _<=_; rw [Z11.sz_def]; decide)
  ·refine eqA_refl (x:=TArg.mk _ (Z128_q p.FInitial)) ?_;show Z11.sz (Z128_q p.FInitial)<=_;rw [Z11.sz_def];show 0+1+1+1+1+1<=1048576;omega
theorem inner_spec {a:Sl Z8}{k i0:Nat}{x15:Z8}{s5 s5':Sl TSel}{kn kn':Sl TSel->Int->Option (Sl TSel)}{rec rec':Z8->Option TSel}
  (hl:a.l.length<=1048576) (h0:a.l[i0]?=some x15) (hr:∀x∈a.l,∃s s',rec x=some s/\rec' x=some s'/\EqS k s s') :
  ∀(f f' j:Nat) (y y':TSel),EqS (k+1) y y'->j<=a.l.length->a.l.length-j<f->a.l.length-j<f'->y.FSels.l.length<=j ->
   ∃(j2:Nat) (z z':TSel),j<=j2/\j2<=a.l.length/\(∀x,a.l[j]?=some x->x.FOn=x15.FOn->x.FLabel=x15.FLabel->j<j2) /\
    normal_sels_l32 a s5 x15 kn rec f (j:Int) y=normal_sels_j28 s5 kn (j2:Int) z/\r19_selections_l36 a s5' (i0:Int) kn' rec' f' (j:Int) y'=r19_selections_j32 s5' kn' (j2:Int) z'/\EqS (k+1) z z'
 | 0,_,_,_,_,_,_,h,_,_=>by omega
 | _+1,0,_,_,_,_,_,_,h,_=>by omega
 | f+1,f'+1,j,y,y',hy,hj,hf,hf',hs=>by
  rw [normal_sels_l32,r19_selections_l36];by_cases hlt:j<a.l.length
  ·have hg:a.l[j]?=some a.l[j]:=List.getElem?_eq_getElem hlt;simp only [idxN,hg,h0,dT (by omega:((j:Nat):Int)<((a.l.length:Nat):Int)),guardO,if_true,oB,Bool.true_and];by_cases hc:(a.l[j]).FOn=x15.FOn/\(a.l[j]).FLabel=x15.FLabel
   ·obtain⟨c1,c2⟩:=hc;obtain⟨s,s',e1,e2,e3⟩:=hr _ (List.getElem_mem hlt);have ha:addC (j:Int) 1=some ((j+1:Nat):Int):=by rw [addC_ok (by omega)]; rfl
    obtain⟨n1,n2,n3,n4,n5,n6,n7⟩:=hy;have hlen:=n7.length;obtain⟨j2,z,z',g1,g2,_,g3,g4,g5⟩:=inner_spec (s5:=s5) (s5':=s5') (kn:=kn) (kn':=kn') hl h0 hr f f' (j+1)
     (TSel.mk y.FKind y.FAlias y.FName y.FOn y.FArgs y.FDirs (y.FSels.nl&&[s].isEmpty) (y.FSels.l++[s])) (TSel.mk y'.FKind y'.FAlias y'.FName y'.FOn y'.FArgs y'.FDirs (y'.FSels.nl&&[s'].isEmpty) (y'.FSels.l++[s']))
     ⟨n1,n2,n3,n4,n5,n6,n7.append (.cons e3 .nil)⟩ (by omega) (by omega) (by omega) (by show (y.FSels.l++[s]).length<=_; simp; omega)
    refine⟨j2,z,z',by omega,g2,fun _ _ _ _=>by omega, ?_, ?_,g5⟩
    ·rw [<- g3];simp only [c1,c2,beq_self_eq_true,if_true,oB,Bool.true_and,cond_true,e1,ha,appN (z:=128) (s:=y.FSels) (r:=⟨false,[s]⟩) (by omega) (by simp; omega)]
    ·rw [<- g4];simp only [c1,c2,beq_self_eq_true,if_true,oB,Bool.true_and,cond_true,e2,ha,appN (z:=128) (s:=y'.FSels) (r:=⟨false,[s']⟩) (by omega) (by simp; omega)]
   ·have hb:((a.l[j]).FOn==x15.FOn&&(a.l[j]).FLabel==x15.FLabel)=false:=by
     rw [Bool.and_eq_false_iff];by_cases c1:(a.l[j]).FOn=x15.FOn
     ·exact Or.inr (beq_eq_false_iff_ne.mpr fun c2=>hc ⟨c1,c2⟩)
     ·exact Or.inl (beq_eq_false_iff_ne.mpr c1)
    refine⟨j,y,y',Nat.le_refl _,hj,fun x h1 h2 h3=>?_, ?_, ?_,hy⟩
    ·cases h1; exact absurd ⟨h2,h3⟩ hc
    ·cases c1:(a.l[j]).FOn==x15.FOn
     ·simp
     ·rw [c1,Bool.true_and] at hb; simp [hb]
    ·cases c1:(a.l[j]).FOn==x15.FOn
     ·simp
     ·rw [c1,Bool.true_and] at hb; simp [hb]
  ·refine⟨j,y,y',Nat.le_refl _,hj,fun x h1 _ _=>?_, ?_, ?_,hy⟩
   ·rw [List.getElem?_eq_none (by omega)] at h1; cases h1
   ·simp only [guardO,dF (by omega:¬((j:Nat):Int)<((a.l.length:Nat):Int)),Bool.false_eq_true,if_false,Bool.false_and,cond_false]
   ·simp only [guardO,dF (by omega:¬((j:Nat):Int)<((a.l.length:Nat):Int)),Bool.false_eq_true,if_false,Bool.false_and,cond_false]
theorem outer_spec {a:Sl Z8}{on:Bs}{k:Nat}{rec rec':Z8->Option TSel}(hl:a.l.length<=1048576) (hsz:∀x∈a.l,x.FLabel.length+6<=1048576) (hr:∀x∈a.l,∃s s',rec x=some s/\rec' x=some s'/\EqS k s s') :
  ∀(f f' i:Nat) (s s':Sl TSel),All2 (EqS (k+1)) s.l s'.l->s.l.length<=i->i<=a.l.length->a.l.length-i<f->a.l.length-i<f' ->
   ∃r r':Sl TSel,normal_sels_l7 a on rec f s (i:Int)=some r/\r19_selections_l7 on a rec' f' s' (i:Int)=some r'/\All2 (EqS (k+1)) r.l r'.l/\(s.l≠[]\/i<a.l.length->r.l≠[])
 | 0,_,_,_,_,_,_,_,h,_=>by omega
 | _+1,0,_,_,_,_,_,_,_,h=>by omega
 | f+1,f'+1,i,s,s',hs,hsl,hi,hf,hf'=>by
  rw [normal_sels_l7,r19_selections_l7];by_cases hlt:i<a.l.length
  ·have hg:a.l[i]?=some a.l[i]:=List.getElem?_eq_getElem hlt;obtain⟨u,u',e1,e2,e3⟩:=hr _ (List.getElem_mem hlt);have ha:addC (i:Int) 1=some ((i+1:Nat):Int):=by rw [addC_ok (by omega)]; rfl
   have hlen:=hs.length;simp only [idxN,hg,dT (by omega:((i:Nat):Int)<((a.l.length:Nat):Int)),cond_true,oB];by_cases hc:((a.l[i]).FOn==on&&(a.l[i]).FLabel==([]:Bs))=true
   ·obtain⟨r,r',g1,g2,g3,g4⟩:=outer_spec (on:=on) hl hsz hr f f' (i+1) ⟨s.nl&&[u].isEmpty,s.l++[u]⟩ ⟨s'.nl&&[u'].isEmpty,s'.l++[u']⟩ (hs.append (.cons (EqS.mono (by omega) e3) .nil)) (by simp; omega) (by omega) (by omega) (by omega);refine⟨r,r', ?_, ?_,g3,fun _=>g4 (Or.inl (by simp))⟩
    ·rw [hc,cond_true,e1,oB,appN (by omega) (by simp; omega),oB,ha,oB]; exact g1
    ·rw [Bool.and_eq_true] at hc;simp only [guardO,hc.1,if_true,oB,hc.2,Bool.true_and,cond_true,e2,ha];rw [appN (by omega) (by simp; omega),oB]; exact g2
   ·have hc':((a.l[i]).FOn==on&&(a.l[i]).FLabel==([]:Bs))=false:=by simpa using hc
    have key:∀y y':TSel,EqS (k+1) y y'->y.FSels.l=[]->∃r r':Sl TSel,normal_sels_j26 a s (i:Int) a.l[i] (normal_sels_l7 a on rec f) rec y=some r/\r19_selections_j29 a s' (i:Int) (r19_selections_l7 on a rec' f') rec' y'=some r'/\All2 (EqS (k+1)) r.l r'.l/\(s.l≠[]\/i<a.l.length->r.l≠[]):=by
     intro y y' hy hy0;obtain⟨j2,z,z',g1,g2,g3,g4,g5,g6⟩:=inner_spec (s5:=s) (s5':=s') (kn:=normal_sels_l7 a on rec f) (kn':=r19_selections_l7 on a rec' f') hl hg hr F0 F0 i y y' hy hi (by rw [F0_eq]; omega) (by rw [F0_eq]; omega) (by rw [hy0]; exact Nat.zero_le _);have g3':=g3 _ hg rfl rfl;obtain⟨r,r',q1,q2,q3,q4⟩:=outer_spec (on:=on) hl hsz hr f f' j2 ⟨s.nl&&[z].isEmpty,s.l++[z]⟩ ⟨s'.nl&&[z'].isEmpty,s'.l++[z']⟩ (hs.append (.cons g6 .nil)) (by simp; omega) g2 (by omega) (by omega)
     refine⟨r,r', ?_, ?_,q3,fun _=>q4 (Or.inl (by simp))⟩
     ·unfold normal_sels_j26; rw [g4]; unfold normal_sels_j28; rw [appN (by omega) (by simp; omega),oB]; exact q1
     ·unfold r19_selections_j29; rw [g5]; unfold r19_selections_j32; rw [appN (by omega) (by simp; omega),oB]; exact q2
    have hgd:∀(K:Z8->Option (Sl TSel)),guardO ((a.l[i]).FOn==on) (some a.l[i]) Z8.zero (fun x17=>bif ((a.l[i]).FOn==on&&x17.FLabel==([]:Bs)) then K x17 else K a.l[i])=K a.l[i]:=by
     intro K;cases c1:(a.l[i]).FOn==on
     ·simp [guardO]
     ·simp [guardO]
    rw [hc',cond_false];by_cases hlb:(a.l[i]).FLabel=[]
    ·obtain⟨r,r',q1,q2,q3,q4⟩:=key (TSel.mk (3:Int) ([]:Bs) ([]:Bs) (a.l[i]).FOn (Sl.nil:Sl TArg) (Sl.nil:Sl TDir) true ([])) (TSel.mk (3:Int) ([]:Bs) ([]:Bs) (a.l[i]).FOn (Sl.nil:Sl TArg) (Sl.nil:Sl TDir) true ([])) ⟨rfl,rfl,rfl,rfl,.nil,.nil,.nil⟩ rfl;refine⟨r,r', ?_, ?_,q3,q4⟩
     ·rw [hlb,show (!(([]:Bs)==([]:Bs)))=false from rfl,cond_false]; exact q1
     ·have hon:((a.l[i]).FOn==on)=false:=by
       rw [hlb] at hc'; simpa using hc'
      simp only [guardO,hon,Bool.false_and,Bool.false_eq_true,if_false,cond_false,hlb,beq_self_eq_true,Bool.not_true];exact q2
    ·have hne:((a.l[i]).FLabel==([]:Bs))=false:=beq_eq_false_iff_ne.mpr hlb;obtain⟨r,r',q1,q2,q3,q4⟩:=key (TSel.mk (3:Int) ([]:Bs) ([]:Bs) (a.l[i]).FOn (Sl.nil:Sl TArg) (⟨false,[(TDir.mk ([100,101,102,101,114]:Bs) (⟨false,[(TArg.mk ([108,97,98,101,108]:Bs) (Z132_q (a.l[i]).FLabel))]⟩:Sl TArg))]⟩:Sl TDir) true ([]))
      (TSel.mk (3:Int) ([]:Bs) ([]:Bs) (a.l[i]).FOn (Sl.nil:Sl TArg) (⟨false,[(TDir.mk ([100,101,102,101,114]:Bs) (⟨false,[(TArg.mk ([108,97,98,101,108]:Bs) (Z77_q (a.l[i]).FLabel))]⟩:Sl TArg))]⟩:Sl TDir) true ([]))
      ⟨rfl,rfl,rfl,rfl,.nil,.cons ⟨rfl,.cons (eqA_refl (x:=TArg.mk _ (Z132_q (a.l[i]).FLabel)) (by
       show Z11.sz (Z132_q (a.l[i]).FLabel)<=_;rw [Z11.sz_def];show 0+1+1+((a.l[i]).FLabel.length+1)+1+1<=1048576;have:=hsz _ (List.getElem_mem hlt); omega)) .nil⟩ .nil,.nil⟩ rfl
     refine⟨r,r', ?_, ?_,q3,q4⟩
     ·rw [hne,Bool.not_false,cond_true,Z132_eq,oB]; exact q1
     ·cases hon:(a.l[i]).FOn==on
      ·simp only [guardO,Bool.false_and,Bool.false_eq_true,if_false,cond_false,hne,Bool.not_false,cond_true,Z77_eq,oB]; exact q2
      ·simp only [guardO,Bool.true_and,if_true,oB,cond_false,hne,Bool.not_false,cond_true,Z77_eq]; exact q2
  ·rw [dF (by omega:¬((i:Nat):Int)<((a.l.length:Nat):Int)),cond_false,cond_false];exact⟨s,s',rfl,rfl,hs,fun h=>by rcases h with h|h; exact h; omega⟩
theorem field_spec:∀(n:Nat) (p:Z8),p.sz<n->p.wf->p.sz<=1048576->∀m m',2*n<=m->2*n<=m'->∃s s',Z51_n m p=some s/\Z76_n m' p=some s'/\EqS (2*n) s s'
 | 0,_,h,_,_,_,_,_,_=>by omega
 | n+1,p,hn,hw,hs,m,m',hm,hm'=>by
  obtain⟨m1,rfl⟩:∃m1,m=m1+1+1:=⟨m-2,by omega⟩;obtain⟨m2,rfl⟩:∃m2,m'=m2+1+1:=⟨m'-2,by omega⟩;have hd:=p.sz_def;have hpl:=Sl.len_le (f:=Z8.sz) p.FPicks (fun x=>x.pos);have hal:=Sl.len_le (f:=TArg.sz) p.FArgs (fun x=>x.pos);obtain⟨r,r',e1,e2,e3,e4⟩:=outer_spec (a:=p.FPicks) (on:=p.FType.FName) (rec:=Z51_n m1) (rec':=Z76_n m2) (k:=2*n) (by omega)
   (fun x hx=>by have:=Z8.item_lt hx; have h2:=x.label_lt; omega)
   (fun x hx=>field_spec n x (by have:=Z8.item_lt hx; omega) ((Z8.FPicks_wf hw).2.2 x hx) (by have:=Z8.item_lt hx; omega) m1 m2 (by omega) (by omega))
   F0 F0 0 Sl.nil Sl.nil .nil (Nat.zero_le _) (Nat.zero_le _) (by rw [F0_eq]; omega) (by rw [F0_eq]; omega)
  have hargs:∀x∈p.FArgs.l,x.FValue.wf/\x.FValue.sz<=1048576:=fun x hx=>⟨TArg.FValue_wf ((Z8.FArgs_wf hw).2.2 x hx),by have:=Z8.arg_lt hx; omega⟩;have e1':normal_sels_n (m1+1) p.FPicks p.FType.FName=some r:=by rw [normal_sels_n]; exact e1
  have e2':r19_selections_n (m2+1) p.FType.FName p.FPicks=some r':=by rw [r19_selections_n]; exact e2
  have fin:∀al:Bs,∃s s',Z51_j5 p (TSel.mk (1:Int) al p.FName ([]:Bs) (Sl.nil:Sl TArg) (Sl.nil:Sl TDir) r.nl r.l)=some s/\Z76_j3 p (r19_selections_n (m2+1)) (TSel.mk (1:Int) al p.FName ([]:Bs) p.FArgs (Sl.nil:Sl TDir) true ([]))=some s'/\EqS (2*(n+1)) s s':=by
   intro al;obtain⟨a,g1,g2⟩:=j5_spec p hargs (by omega) (TSel.mk (1:Int) al p.FName ([]:Bs) (Sl.nil:Sl TArg) (Sl.nil:Sl TDir) r.nl r.l) rfl;obtain⟨d,g3,g4⟩:=j7_spec p (setA (TSel.mk (1:Int) al p.FName ([]:Bs) (Sl.nil:Sl TArg) (Sl.nil:Sl TDir) r.nl r.l) a) rfl;obtain⟨d',g5,g6⟩:=g4 (r19_selections_n (m2+1)) (TSel.mk (1:Int) al p.FName ([]:Bs) p.FArgs (Sl.nil:Sl TDir) true ([])) rfl;rw [g1,g3,g5];unfold Z76_j5 Z76_j7
   by_cases hp:0<p.FPicks.l.length
   ·rw [dT (by omega:(0:Int)<((p.FPicks.l.length:Nat):Int)),cond_true,e2',oB];exact⟨_,_,rfl,rfl,rfl,rfl,rfl,rfl,g2,g6,e3⟩
   ·rw [dF (by omega:¬(0:Int)<((p.FPicks.l.length:Nat):Int)),cond_false];have hr0:r.l=[]:=by
     have hp0:p.FPicks.l.length=0:=by omega
     obtain⟨q,hq⟩:∃q,F0=q+1:=⟨F0-1,by rw [F0_eq]⟩;rw [hq,show ((0:Nat):Int)=(0:Int) from rfl,normal_sels_l7,hp0,show decide ((0:Int)<((0:Nat):Int))=false from rfl,cond_false] at e1;cases e1; rfl
    exact⟨_,_,rfl,rfl,rfl,rfl,rfl,rfl,g2,g6,(by show All2 _ r.l []; rw [hr0]; exact .nil)⟩
  rw [Z51_n,Z76_n,e1',oB];cases hk:p.FKey==p.FName
  ·rw [Bool.not_false,cond_true,cond_true];exact fin p.FKey
  ·rw [Bool.not_true,cond_false,cond_false];exact fin []
theorem sels_spec {a:Sl Z8}(on:Bs) (hw:Sl.wf Z8.wf a) (hs:Sl.sz Z8.sz a<=1048576):∃r r',normal_sels a on=some r/\r19_selections on a=some r'/\All2 (EqS 4000003) r.l r'.l/\(a.l=[]->r.l=[])/\(a.l≠[]->r.l≠[]):=by
 have hpl:=Sl.len_le (f:=Z8.sz) a (fun x=>x.pos);obtain⟨m,hm⟩:∃m,F0=m+1:=⟨F0-1,by rw [F0_eq]⟩;have hm':2*2000001<=m:=by rw [F0_eq] at hm; omega
 obtain⟨r,r',e1,e2,e3,e4⟩:=outer_spec (a:=a) (on:=on) (rec:=Z51_n m) (rec':=Z76_n m) (k:=2*2000001) (by omega)
   (fun x hx=>by have:=Sl.mem_le (f:=Z8.sz) hx; have h2:=x.label_lt; omega)
   (fun x hx=>field_spec 2000001 x (by have:=Sl.mem_le (f:=Z8.sz) hx; omega) (hw.2.2 x hx) (by have:=Sl.mem_le (f:=Z8.sz) hx; omega) m m hm' hm')
   F0 F0 0 Sl.nil Sl.nil .nil (Nat.zero_le _) (Nat.zero_le _) (by rw [F0_eq]; omega) (by rw [F0_eq]; omega)
 refine⟨r,r', ?_, ?_,e3,fun h=>?_,fun h=>e4 (Or.inr (List.length_pos_iff.mpr h))⟩
 ·have e:normal_sels_n F0 a on=normal_sels_n (m+1) a on:=by rw [hm]
  unfold normal_sels; rw [e,normal_sels_n]; exact e1
 ·have e:r19_selections_n F0 on a=r19_selections_n (m+1) on a:=by rw [hm]
  unfold r19_selections; rw [e,r19_selections_n]; exact e2
 ·rw [hm,show ((0:Nat):Int)=(0:Int) from rfl,normal_sels_l7,h,show decide ((0:Int)<((([]:List Z8).length:Nat):Int))=false from rfl,cond_false] at e1;cases e1; rfl
end Go.Proofs

namespace Go.Proofs
open Go Go.Ab
theorem args_w19:∀(l:List TArg) (s:Int),(∀x∈l,x.sz<=1048576)->0<=s->s+(l.map TArg.sz).sum<=1073741824->Gr (Z42_q23 l s) s (l.map TArg.sz).sum
 | [],s,_,_,_=>Gr.refl _ _
 | a::r,s,hx,h0,h=>by
  simp only [List.map_cons,List.sum_cons] at h ⊢;rw [Z42_q23];cases decide (s<=(300:Int)) with
  | false=>exact Gr.refl _ _
  | true =>
   simp only [cond_true,Ab.on];have hd:=a.sz_def;have hb:=Bs.sz_pos a.FName;have hm:=hx a List.mem_cons_self;refine Gr.bind (a:=1) (b:=a.FValue.sz+(r.map TArg.sz).sum) (Gr.add (by omega) (by omega)) (by omega) fun x h1 h2=>?_;obtain⟨w,e,w1,w2⟩:=value_W 300 a.FValue (by omega);rw [e,oB];refine Gr.bind (a:=a.FValue.sz) (b:=(r.map TArg.sz).sum) (Gr.add (by omega) (by omega)) (by omega) fun y h3 h4=>?_
   exact args_w19 r y (fun z hz=>hx z (List.mem_cons_of_mem _ hz)) (by omega) (by omega)
theorem pick_w19 (n:Nat):∀p:Z8,p.sz<n->p.sz<=1048576->Gr (Z42_qn n p) 0 p.sz:=by
 induction n with
 | zero=>intro v h; omega
 | succ n ih =>
  intro v hn hs;have hd:=v.sz_def;have ht:=v.FType.sz_def;have hk:Sl.sz TArg.sz v.FArgs=1+(v.FArgs.l.map TArg.sz).sum:=rfl;have hi:Sl.sz Z8.sz v.FPicks=1+(v.FPicks.l.map Z8.sz).sum:=rfl;have hwr:v.FType.FWraps.l.length<=Sl.sz (fun _=>1) v.FType.FWraps:=Sl.len_le (f:=fun _=>1) v.FType.FWraps (fun _=>Nat.le_refl _);have hl:∀(l:List Z8) (s:Int),(∀x∈l,x.sz<n/\x.sz<=1048576)->0<=s->s+(l.map Z8.sz).sum<=1073741824->Gr (Z42_q11 (Z42_qn n) l s) s (l.map Z8.sz).sum:=by
   intro l;induction l with
   | nil=>intro s _ _ _; exact Gr.refl _ _
   | cons a r ihl =>
    intro s hx h0 h;simp only [List.map_cons,List.sum_cons] at h ⊢;rw [Z42_q11];cases decide (s<=(300:Int)) with
    | false=>exact Gr.refl _ _
    | true =>
     simp only [cond_true,Ab.on];obtain⟨w,e,h1,h2⟩:=ih a (hx a (by simp)).1 (hx a (by simp)).2;rw [e,oB];refine Gr.bind (a:=a.sz) (b:=(r.map Z8.sz).sum) (Gr.add (by omega) (by omega)) (by omega) fun y h3 h4=>?_;exact ihl y (fun x hx'=>hx x (by simp [hx'])) (by omega) (by omega)
  rw [Z42_qn,addC_ok (by omega),oB];simp only [Ab.on];obtain⟨x,e1,x1,x2⟩:=args_w19 v.FArgs.l (1+((v.FType.FWraps.l.length:Nat):Int)) (fun z hz=>by have:=Sl.mem_le (f:=TArg.sz) hz; omega) (by omega) (by omega);rw [e1,oB];obtain⟨y,e2,y1,y2⟩:=hl v.FPicks.l x (fun z hz=>by have:=Z8.item_lt hz; omega) (by omega) (by omega);rw [e2];exact⟨y,rfl,by omega,by omega⟩
theorem large19_l:∀(l:List Z8) (s:Int),(∀x∈l,x.sz<=1048576)->0<=s->s+(l.map Z8.sz).sum<=1073741824->∃r,Z41_q7 l s=some r
 | [],s,_,_,_=>⟨s,rfl⟩
 | a::r,s,hx,h0,h=>by
  simp only [List.map_cons,List.sum_cons] at h;rw [Z41_q7];cases decide (s<=(300:Int)) with
  | false=>exact⟨s,rfl⟩
  | true =>
   simp only [cond_true,Ab.on];obtain⟨w,e,h1,h2⟩:=pick_w19 F0 a (by rw [F0_eq]; have:=hx a List.mem_cons_self; omega) (hx a List.mem_cons_self);unfold Z42_q;rw [e,oB,addC_ok (by omega),oB];exact large19_l r _ (fun z hz=>hx z (List.mem_cons_of_mem _ hz)) (by omega) (by omega)
theorem large19 {a:Sl Z8}(hs:Sl.sz Z8.sz a<=1048576):∃b,Z41_q a=some b:=by
 have hi:Sl.sz Z8.sz a=1+(a.l.map Z8.sz).sum:=rfl;obtain⟨r,e⟩:=large19_l a.l 0 (fun x hx=>by have:=Sl.mem_le (f:=Z8.sz) hx; omega) (by omega) (by omega);exact⟨_,by unfold Z41_q; rw [e]; rfl⟩
theorem sameVars_nil:Z72_q (Sl.nil:Sl TVar) (Sl.nil:Sl TVar)=some true:=by
 unfold Z72_q;rfl
theorem alike1 {k:Int}{n:Nat}{a b:Sl TSel}(hn:n<=10000000) (h:All2 (EqS n) a.l b.l):Z68_q (Z10.mk (⟨false,[TOp.mk k ([]:Bs) (Sl.nil:Sl TVar) a]⟩:Sl TOp) (Sl.nil:Sl Z5)) (Z10.mk (⟨false,[TOp.mk k ([]:Bs) (Sl.nil:Sl TVar) b]⟩:Sl TOp) (Sl.nil:Sl Z5))=some true:=by
 unfold Z68_q;have e:Z68_q27 (Z10.mk (⟨false,[TOp.mk k ([]:Bs) (Sl.nil:Sl TVar) b]⟩:Sl TOp) (Sl.nil:Sl Z5)) [TOp.mk k ([]:Bs) (Sl.nil:Sl TVar) a] 0=some (Sum.inl ()):=by
  rw [Z68_q27];simp [Ab.on,guardO,sameVars_nil,sameSels hn h,Z68_q27]
 simp only [e];rfl
theorem query19 {p:Z9}(hw:p.wf) (hs:p.sz<=1048576):∃x y,Z45_q p=some x/\Z74_q p=some y/\Z68_q x y=some true:=by
 have hd:p.sz=1+(Sl.sz Z8.sz p.FPicks+0):=rfl;obtain⟨r,r',e1,e2,e3,e4,e5⟩:=sels_spec (a:=p.FPicks) (Z83_q p.FKind) hw.2.1 (by omega);have hroot:Z73_q p.FKind=Z83_q p.FKind:=rfl;unfold Z45_q Z74_q;simp only [Ab.on];rw [hroot,e1,e2];simp only [oB];by_cases hp:p.FPicks.l=[]
 ·have h1:p.FPicks.l.length=0:=by rw [hp]; rfl
  have h2:r'.l.length=0:=by rw [<- e3.length,e4 hp]; rfl
  rw [h1,h2];simp only [Int.natCast_zero,decide_true,cond_true];exact⟨_,_,rfl,rfl,alike1 (n:=1) (by omega) (.cons ⟨rfl,rfl,rfl,rfl,.nil,.cons ⟨rfl,.cons (eqA_refl (by show Z11.sz _<=_; rw [Z11.sz_def]; decide)) .nil⟩ .nil,.nil⟩ .nil)⟩
 ·have h1:p.FPicks.l.length≠0:=fun h=>hp (List.eq_nil_of_length_eq_zero h);have h2:r'.l.length≠0:=by rw [<- e3.length]; exact fun h=>e5 hp (List.eq_nil_of_length_eq_zero h)
  rw [dF (by omega:¬((p.FPicks.l.length:Nat):Int)=0),dF (by omega:¬((r'.l.length:Nat):Int)=0),cond_false,cond_false];exact⟨_,_,rfl,rfl,alike1 (n:=4000003) (by omega) e3⟩
theorem example19:Z40=some true:=by kernel_rfl
theorem docs_eq {p:Z9}(hw:p.wf) (hs:p.sz<=1048576):Z38_q p=some true:=by
 have hd:p.sz=1+(Sl.sz Z8.sz p.FPicks+0):=rfl;obtain⟨b,e⟩:=large19 (a:=p.FPicks) (by omega);obtain⟨x,y,e1,e2,e3⟩:=query19 hw hs;unfold Z38_q;rw [e,oB,e1,e2];cases b
 ·simp only [guardO,Bool.not_false,if_true,oB,e3,Bool.or_true,example19]; rfl
 ·simp only [guardO,Bool.not_true,Bool.false_eq_true,if_false,Bool.or_false,Bool.true_or,if_true,example19]; rfl
end Go.Proofs

namespace Go.Proofs.YtbghdiaepdaaeaaGreatDoor
open Go Go.Ab Go.RowKit Go.ChangeShapes Go.WideShapes Go.ChangeAt
variable {lou:Lou} [IsLoud lou]
theorem bulkAll {H:Type}(l:List (DataW H)):Rows.uptoBulkAll l=(l.map Rows.uptoBulk).sum:=by
 induction l with
 | nil=>rfl
 | cons x r ih=>simp only [Rows.uptoBulkAll,List.map_cons,List.sum_cons,ih]
theorem bulkB {H:Type}:Bulk (H:=H) Rows.uptoBulk:=by
 refine⟨fun d=>?_,fun b=>by simp [Rows.uptoBulk],fun e s=>by simp only [Rows.uptoBulk,bulkAll]; omega,fun l=>by simp only [Rows.uptoBulk,bulkAll]; omega⟩;cases d with
 | lit l=>cases l<;>simp [Rows.uptoBulk]
 | nil=>simp [Rows.uptoBulk]
 | ptr d=>simp [Rows.uptoBulk]
 | slice elems spare=>simp [Rows.uptoBulk]
 | agg parts=>simp [Rows.uptoBulk]
 | iface t d=>simp [Rows.uptoBulk]
 | map entries=>simp [Rows.uptoBulk]
 | held h=>simp [Rows.uptoBulk]
theorem own:ownKnob Tryz.prog.godebug=none:=by kernel_rfl
theorem laid:laidOutB Tryz.prog=true:=by kernel_rfl
theorem bound {H:Type}{l:List (DataW H)}(hk:Rows.uptoSmall H l=true):Rows.uptoBulkAll l<=1048576:=oD hk
theorem table {W:World}(h:laidMet Tryz.prog Rows.normalDocumentsUptoRow.laid W):∃u fr,W.heap[4]?=some (.cells (Lib.pow10Tab.map fun z=>Value.int .u64 z).toArray u fr) :=
 tab_of (P:=Tryz.prog) (name := "internal/strconv.uint64pow10") (g:=4) (t:=286) (e:=257) (n:=20) (by kernel_rfl) (by kernel_rfl) (by kernel_rfl) (by kernel_rfl) (by kernel_rfl) (by kernel_rfl) h
  (by rw [show (Lib.tabData .u64 Lib.pow10Tab:DataW Unit)=Rows.laid_internal_strconv_uint64pow10 from(by kernel_rfl)]; exact .tail _ (.tail _ (.head _)))
theorem isTab (u:TypeId) (fr:Nat×Nat):IsTab Tryz.prog (.fix 4 (.cells (Lib.pow10Tab.map fun z=>Value.int .u64 z).toArray u fr)):=.of (by kernel_rfl)
theorem docs_call (a:Z9) (ha:a.sz<=1048576) (wa:a.wf) (u:TypeId) (fr:Nat×Nat):AC Tryz.prog 5 [.agg a.c] (hTab 4 (.cells (Lib.pow10Tab.map fun z=>Value.int .u64 z).toArray u fr)) fun r h'=>r=.a (.d (.bool true))/\h'=hTab 4 (.cells (Lib.pow10Tab.map fun z=>Value.int .u64 z).toArray u fr) :=
 Z38_walk (by rw [Z38_eq]; exact docs_eq wa ha) _ (gT:=0) rfl (isTab u fr)
end Go.Proofs.YtbghdiaepdaaeaaGreatDoor

