import Derived.Test.YtekcmpooblhllaaGreatDoorV4
import Derived.Test.YtekcmpooblhllaaGreatDoorRows
set_option maxRecDepth 100000
set_option maxHeartbeats 2000000
set_option linter.unusedVariables false
set_option linter.unusedSimpArgs false
namespace Go.Proofs
open Go Go.Ab
def lim63:Nat:=9223372036854775808
def stepF (a:Nat) (c:UInt8):Nat:=a*10+(c.toNat-48)
def valF (a:Nat) (l:Bs):Nat:=l.foldl stepF a
theorem valF_cons (a:Nat) (c:UInt8) (r:Bs):valF a (c::r)=valF (a*10+(c.toNat-48)) r:=by
 unfold valF;rw [List.foldl_cons];unfold stepF;exact Eq.refl _
theorem valF_ge:∀(l:Bs) (a:Nat),a<=valF a l
 | [],a=>Nat.le_refl _
 | c::r,a=>by rw [valF_cons]; have:=valF_ge r (a*10+(c.toNat-48)); omega
theorem isD_nat {c:UInt8}(h:isD c=true):48<=c.toNat/\c.toNat<=57:=by
 unfold isD at h; simp only [Bool.and_eq_true,decide_eq_true_eq] at h; omega
theorem parse_val:∀(t:Bs) (a:Nat),t.all isD=true->a<18446744073709551616->(Lib.parseUint10 a t=.ok (valF a t)/\valF a t<18446744073709551616)\/(Lib.parseUint10 a t=.range/\18446744073709551616<=valF a t)
 | [],a,_,h=>.inl ⟨rfl,h⟩
 | c::r,a,hd,h=>by
  simp only [List.all_cons,Bool.and_eq_true] at hd;have hc:=isD_nat hd.1;have hg:=valF_ge r (a*10+(c.toNat-48));rw [Lib.parseUint10,if_pos hc,valF_cons];by_cases h1:1844674407370955162<=a
  ·right; rw [if_pos h1]; exact⟨rfl,by omega⟩
  ·rw [if_neg h1];by_cases h2:18446744073709551616<=a*10+(c.toNat-48)
   ·right; rw [if_pos h2]; exact⟨rfl,by omega⟩
   ·rw [if_neg h2]; exact parse_val r _ hd.2 (by omega)
def negB (s:Bs):Bool:=s.head?==some 45
def magB (s:Bs):Bs:=bif negB s then s.tail else s
def numE (s:Bs):Int:=bif (magB s).isEmpty||((magB s).head?==some 48&&(decide (1<(magB s).length)||negB s)) then 3 else bif !(magB s).all isD then 3 else bif decide ((bif negB s then lim63 else lim63-1)<valF 0 (magB s)) then 4 else 0
theorem trim_eq (s:Bs):Z98_q s [45]=some (magB s):=by
 unfold Z98_q Z30_q Z28_q magB negB;cases s with
 | nil=>rfl
 | cons c r =>
  have h1:decide ((([45]:Bs).length:Int)<=(((c::r:Bs).length:Nat):Int))=true:=dT (by simp only [List.length_cons,List.length_nil]; omega);simp only [Ab.on,h1,cond_true,Bool.true_and,List.head?_cons,List.tail_cons];have h2:List.take ([45]:Bs).length (c::r)=[c]:=rfl;rw [h2];by_cases h:c=45
  ·subst h;rw [show (([45]:Bs)==[45])=true from rfl,show (some (45:UInt8)==some 45)=true from rfl];simp only [cond_true];rw [show (some ((([45]:Bs).length:Nat):Int))=some (((1:Nat):Int)) from rfl,cut_from (by simp)]; rfl
  ·have h3:(([c]:Bs)==[45])=false:=by simpa using h
   have h4:(some c==some 45)=false:=by simpa using h
   rw [h3,h4]; rfl
theorem tdig_eq:∀l:Bs,Z100_q19 l=bif l.all isD then Sum.inl () else Sum.inr (0,3)
 | []=>rfl
 | c::r=>by
  rw [Z100_q19,tdig_eq r];simp only [Ab.on,List.all_cons];unfold isD;by_cases h1:((c.toNat:Nat):Int)<48
  ·rw [show decide (((c.toNat:Nat):Int)<48)=true from dT h1,show decide ((48:Int)<=((c.toNat:Nat):Int))=false from dF (by omega)]; rfl
  ·rw [show decide (((c.toNat:Nat):Int)<48)=false from dF h1,show decide ((48:Int)<=((c.toNat:Nat):Int))=true from dT (by omega)];by_cases h2:(57:Int)<((c.toNat:Nat):Int)
   ·rw [show decide (((c.toNat:Nat):Int)<=57)=false from dF (by omega)]; simp [h2]
   ·rw [show decide (((c.toNat:Nat):Int)<=57)=true from dT (by omega)]; simp [h2]
theorem rdig_eq:∀l:Bs,Z35_q47 l=bif l.all isD then Sum.inl () else Sum.inr (0,3)
 | []=>rfl
 | c::r=>by
  rw [Z35_q47,rdig_eq r];simp only [Ab.on,List.all_cons];rw [show Z38_q ((c.toNat:Nat):Int)=isD c from rfl];cases isD c<;>rfl
theorem mag_cases (s:Bs):(negB s=true/\∃r,s=45::r/\magB s=r)\/(negB s=false/\magB s=s):=by
 unfold magB negB;cases s with
 | nil=>exact .inr ⟨rfl,rfl⟩
 | cons c r =>
  by_cases h:c=45
  ·subst h; exact .inl ⟨rfl,r,rfl,rfl⟩
  ·have h4:(some c==some 45)=false:=by simpa using h
   right; simp only [List.head?_cons,h4]; exact⟨trivial,rfl⟩
theorem atoi_num {s:Bs}(hl:s.length<=1048577) (hne:magB s≠[]) (hd:(magB s).all isD=true):∃v,Z83_q s=some (v,decide ((bif negB s then lim63 else lim63-1)<valF 0 (magB s))):=by
 unfold Z83_q Z83 atoiC;rw [if_pos (Nat.le_trans hl (by decide))];rcases mag_cases s with ⟨hn,r,rfl,hm⟩|⟨hn,hm⟩
 ·rw [hm] at hne hd ⊢;rw [hn];have e:Lib.atoiAll (45::r)=(match Lib.parseUint10 0 r with|.syntax=>.syntax|.range=>.range|.ok u=>if ¬True/\9223372036854775808<=u then .range else if True/\9223372036854775808<u then .range else .ok (if True then -(u:Int) else u)):=by
   unfold Lib.atoiAll Lib.parseMag;dsimp only;rw [if_pos (show (45:UInt8).toNat=43\/(45:UInt8).toNat=45 from .inr rfl),if_neg hne];simp only [show ((45:UInt8).toNat=45)=True from eq_true rfl];cases Lib.parseUint10 0 r<;>simp
  rw [e];rcases parse_val r 0 hd (by decide) with ⟨h1,h2⟩|⟨h1,h2⟩
  ·rw [h1];by_cases h3:9223372036854775808<valF 0 r
   ·exact⟨Lib.atoiSat (45::r),by simp only [not_true_eq_false,false_and,if_false,true_and,h3,if_true,cond_true]; rw [dT (show lim63<valF 0 r from h3)]⟩
   ·exact⟨_,by simp only [not_true_eq_false,false_and,if_false,true_and,h3,if_true,cond_true]; rw [dF (show ¬lim63<valF 0 r from h3)]⟩
  ·rw [h1];exact⟨_,by simp only [cond_true]; rw [dT (show lim63<valF 0 r by unfold lim63; omega)]⟩
 ·rw [hm] at hne hd ⊢;rw [hn];cases s with
  | nil=>exact absurd rfl hne
  | cons c r =>
   simp only [List.all_cons,Bool.and_eq_true] at hd;have hc:=isD_nat hd.1;have hd':(c::r).all isD=true:=by simp [hd.1,hd.2]
   have e:Lib.atoiAll (c::r)=(match Lib.parseUint10 0 (c::r) with|.syntax=>.syntax|.range=>.range|.ok u=>if ¬False/\9223372036854775808<=u then .range else if False/\9223372036854775808<u then .range else .ok (if False then -(u:Int) else u)):=by
    unfold Lib.atoiAll Lib.parseMag;have h45:(c.toNat=45)=False:=eq_false (by omega);dsimp only;rw [if_neg (show ¬(c.toNat=43\/c.toNat=45) by omega),if_neg hne];simp only [h45];cases Lib.parseUint10 0 (c::r)<;>simp
   rw [e];rcases parse_val (c::r) 0 hd' (by decide) with ⟨h1,h2⟩|⟨h1,h2⟩
   ·rw [h1];by_cases h3:9223372036854775808<=valF 0 (c::r)
    ·exact⟨_,by simp only [not_false_eq_true,true_and,h3,if_true,cond_false]; rw [dT (show lim63-1<valF 0 (c::r) by unfold lim63; omega)]⟩
    ·exact⟨_,by simp only [not_false_eq_true,true_and,h3,if_false,false_and,cond_false]; rw [dF (show ¬lim63-1<valF 0 (c::r) by unfold lim63; omega)]⟩
   ·rw [h1];exact⟨_,by simp only [cond_false]; rw [dT (show lim63-1<valF 0 (c::r) by unfold lim63; omega)]⟩
theorem tnum_eq {s:Bs}(hl:s.length<=1048577):∃v,Z100 s=some (v,numE s):=by
 rw [Z100_eq];unfold Z100_q;rw [trim_eq,oB,tdig_eq];unfold numE;cases hm:magB s with
 | nil=>exact⟨0,rfl⟩
 | cons c r =>
  rw [show ((c::r:Bs)==[])=false from rfl,show ((c::r:Bs)[0]?)=some c from rfl];simp only [guardO,Bool.not_false,if_true,oB,Bool.false_or,List.isEmpty_cons,List.head?_cons];have h48:decide (((c.toNat:Nat):Int)=48)=(some c==some 48):=by
   rw [Bool.eq_iff_iff,decide_eq_true_eq];simp only [Option.some_beq_some,beq_iff_eq];rw [<- UInt8.toNat_inj];show _↔c.toNat=48;omega
  have hlen:(decide ((1:Int)<(((c::r:Bs).length:Nat):Int))||decide ((1:Int)<((s.length:Nat):Int)))=(decide (1<(c::r:Bs).length)||negB s):=by
   rcases mag_cases s with ⟨hn,r',rfl,hm'⟩|⟨hn,hm'⟩
   ·rw [hn,Bool.or_true];rw [hm'] at hm; subst hm;rw [show decide ((1:Int)<(((45::c::r:Bs).length:Nat):Int))=true from dT (by simp only [List.length_cons]; omega),Bool.or_true]
   ·rw [hn,Bool.or_false,<- hm',hm,Bool.or_self,Bool.eq_iff_iff,decide_eq_true_eq,decide_eq_true_eq]; omega
  rw [h48,hlen];cases hx:(some c==some 48&&(decide (1<(c::r:Bs).length)||negB s))
  ·simp only [cond_false];cases hd:(c::r:Bs).all isD
   ·exact⟨0,rfl⟩
   ·simp only [Ab.on,cond_true,Bool.not_true,cond_false];obtain⟨v,e⟩:=atoi_num hl (by rw [hm]; simp) (by rw [hm]; exact hd);rw [hm] at e;rw [e,oB];cases decide ((bif negB s then lim63 else lim63-1)<valF 0 (c::r))
    ·exact⟨v,rfl⟩
    ·exact⟨0,rfl⟩
  ·exact⟨0,rfl⟩
theorem wrap64_nat (n:Int) (h0 : -9223372036854775808<=n) (h1:n<=9223372036854775807):IntKind.wrap .i64 n=n:=by
 simp [IntKind.wrap,IntKind.bits,IntKind.signed]; omega
theorem tdiv_neg (m:Nat):Int.tdiv (-(m:Int)) 10 = -((m / 10:Nat):Int):=by
 rw [Int.neg_tdiv,Int.tdiv_eq_ediv_of_nonneg (by omega)]; rfl
theorem rval:∀(t:Bs) (a:Nat),t.all isD=true->a<=lim63->(Z35_q28 t (-(a:Int))=some (Sum.inl (-(valF a t:Int)))/\valF a t<=lim63)\/(Z35_q28 t (-(a:Int))=some (Sum.inr (0,4))/\lim63<valF a t)
 | [],a,_,h=>.inl ⟨rfl,h⟩
 | c::r,a,hd,h=>by
  simp only [List.all_cons,Bool.and_eq_true] at hd;have hc:=isD_nat hd.1;have hg:=valF_ge r (a*10+(c.toNat-48));obtain⟨d,hdd⟩:∃d:Nat,c.toNat=48+d:=⟨c.toNat-48,by omega⟩;have hd9:d<=9:=by omega
  have e1:subC (IntKind.wrap .i64 ((c.toNat:Nat):Int)) 48=some (d:Int):=by
   rw [wrap64_nat _ (by omega) (by omega),subC_ok (by omega),hdd];exact congrArg some (by omega)
  have e2:addC (-9223372036854775808) (d:Int)=some (-((lim63-d:Nat):Int)):=by
   rw [addC_ok (by omega)]; unfold lim63; exact congrArg some (by omega)
  have e3:IntKind.wrap .i64 (Int.tdiv (-((lim63-d:Nat):Int)) 10) = -(((lim63-d) / 10:Nat):Int):=by
   rw [tdiv_neg,wrap64_nat _ (by unfold lim63; omega) (by unfold lim63; omega)]
  rw [Z35_q28];simp only [Ab.on];rw [e1,oB,e2,oB,e3,valF_cons,show c.toNat-48=d by omega];rw [show c.toNat-48=d by omega] at hg;by_cases h1:lim63<a*10+d
  ·right
   rw [show decide (-(a:Int) < -(((lim63-d) / 10:Nat):Int))=true from dT (by unfold lim63 at *; omega),cond_true];exact⟨rfl,by omega⟩
  ·rw [show decide (-(a:Int) < -(((lim63-d) / 10:Nat):Int))=false from dF (by unfold lim63 at *; omega),cond_false];have e4:mulC 10 (-(a:Int))=some (-((a*10:Nat):Int)):=by
    unfold mulC lim63 at *;rw [if_pos (by omega)]; exact congrArg some (by push_cast; omega)
   have e5:subC (-((a*10:Nat):Int)) (d:Int)=some (-((a*10+d:Nat):Int)):=by
    unfold lim63 at *;rw [subC_ok (by omega)]; exact congrArg some (by push_cast; omega)
   rw [e4,oB,e5,oB];exact rval r _ hd.2 (by omega)
theorem rnum_eq (s:Bs):∃v,Z35 s=some (v,numE s):=by
 rw [Z35_eq];unfold Z35_q;have h45:((decide ((0:Int)<((s.length:Nat):Int)))&&(decide ((((bif (decide ((0:Int)<((s.length:Nat):Int))) then((s)[0]?.getD (0:UInt8)) else(0:UInt8)).toNat:Nat):Int)=(45:Int))))=negB s:=by
  unfold negB;cases s with
  | nil=>rfl
  | cons c r =>
   rw [show decide ((0:Int)<(((c::r:Bs).length:Nat):Int))=true from dT (by simp only [List.length_cons]; omega)];simp only [cond_true,Bool.true_and,List.getElem?_cons_zero,Option.getD_some,List.head?_cons];rw [Bool.eq_iff_iff,decide_eq_true_eq];simp only [Option.some_beq_some,beq_iff_eq];rw [<- UInt8.toNat_inj];show _↔c.toNat=45;omega
 simp only [Ab.on,h45];have hcut:(bif negB s then((cutC s (some (1:Int)) none).bind fun x61=>some x61) else(some s))=some (magB s):=by
  rcases mag_cases s with ⟨hn,r,rfl,hm⟩|⟨hn,hm⟩
  ·rw [hn,hm,cond_true,show (some (1:Int))=some ((1:Nat):Int) from rfl,cut_from (by simp)]; rfl
  ·rw [hn,hm]; rfl
 rw [hcut,oB,rdig_eq];unfold numE;cases hm:magB s with
 | nil=>exact⟨0,rfl⟩
 | cons c r =>
  rw [show decide ((((c::r:Bs).length:Nat):Int)=0)=false from dF (by simp only [List.length_cons]; omega),show ((c::r:Bs)[0]?)=some c from rfl];simp only [guardO,Bool.not_false,if_true,oB,Bool.false_or,List.isEmpty_cons,List.head?_cons];have h48:decide (((c.toNat:Nat):Int)=48)=(some c==some 48):=by
   rw [Bool.eq_iff_iff,decide_eq_true_eq];simp only [Option.some_beq_some,beq_iff_eq];rw [<- UInt8.toNat_inj];show _↔c.toNat=48;omega
  have hlen:(decide ((1:Int)<(((c::r:Bs).length:Nat):Int)))=(decide (1<(c::r:Bs).length)):=by
   rw [Bool.eq_iff_iff,decide_eq_true_eq,decide_eq_true_eq]; omega
  rw [h48,hlen];cases hx:(some c==some 48&&(decide (1<(c::r:Bs).length)||negB s))
  ·simp only [cond_false];cases hd:(c::r:Bs).all isD
   ·exact⟨0,rfl⟩
   ·simp only [cond_true,Bool.not_true,cond_false];rcases rval (c::r) 0 hd (by decide) with ⟨h1,h2⟩|⟨h1,h2⟩
    ·have h1':Z35_q28 (c::r) 0=some (Sum.inl (-(valF 0 (c::r):Int))):=h1;rw [h1',oB];cases hn:negB s
     ·simp only [cond_false];by_cases h3:valF 0 (c::r)=lim63
      ·rw [show decide (-(valF 0 (c::r):Int) = -9223372036854775808)=true from dT (by rw [h3]; rfl),dT (show lim63-1<valF 0 (c::r) by rw [h3]; decide)];exact⟨0,rfl⟩
      ·rw [show decide (-(valF 0 (c::r):Int) = -9223372036854775808)=false from dF (by unfold lim63 at h3; omega),dF (show ¬lim63-1<valF 0 (c::r) by unfold lim63 at *; omega)];exact⟨_,rfl⟩
     ·simp only [cond_true];rw [dF (show ¬lim63<valF 0 (c::r) by omega)];exact⟨_,rfl⟩
    ·have h1':Z35_q28 (c::r) 0=some (Sum.inr (0,4)):=h1;rw [h1',oB];have h3:decide ((bif negB s then lim63 else lim63-1)<valF 0 (c::r))=true:=dT (by cases negB s<;>simp<;>omega);rw [h3];exact⟨0,rfl⟩
  ·exact⟨0,rfl⟩
end Go.Proofs

namespace Go.Proofs
open Go Go.Ab
def hexS:Bs:=[48,49,50,51,52,53,54,55,56,57,97,98,99,100,101,102]
def hvV (n:Int):Int:=(Z41 n).getD (-2)
def ixV (n:Int):Int:=Lib.indexByte hexS (IntKind.wrap .u8 ((BitVec.ofInt (IntKind.bits .u8) n ||| BitVec.ofInt (IntKind.bits .u8) (32:Int)).toNat:Int)).toNat.toUInt8
def badV (n:Int):Bool:=((decide (ixV n<(0:Int)))||(decide (n<(48:Int))))||((decide ((57:Int)<n))&&(decide (n<(65:Int))))
theorem hex_tab:(List.range 256).all (fun n=>(Z41 (n:Int)==some (hvV (n:Int)))&&((badV (n:Int)==decide (hvV (n:Int)<0))&&((decide (hvV (n:Int)<0)||decide (ixV (n:Int)=hvV (n:Int)))&&(decide (-1<=hvV (n:Int))&&decide (hvV (n:Int)<=15)))))=true:=by
 set_option maxRecDepth 100000 in kernel_rfl
theorem hex_at (c:UInt8):Z41 ((c.toNat:Nat):Int)=some (hvV ((c.toNat:Nat):Int))/\badV ((c.toNat:Nat):Int)=decide (hvV ((c.toNat:Nat):Int)<0)/\(hvV ((c.toNat:Nat):Int)<0\/ixV ((c.toNat:Nat):Int)=hvV ((c.toNat:Nat):Int)) /\ -1<=hvV ((c.toNat:Nat):Int)/\hvV ((c.toNat:Nat):Int)<=15:=by
 have h:=List.all_eq_true.1 hex_tab c.toNat (List.mem_range.2 c.toNat_lt);simp only [Bool.and_eq_true,Bool.or_eq_true,decide_eq_true_eq,beq_iff_eq] at h;exact⟨h.1,h.2.1,h.2.2.1,h.2.2.2.1,h.2.2.2.2⟩
def plV (n:Int):Int×Bool:=(Z103 n).getD (0,false)
theorem pl_tab:(List.range 256).all (fun n=>(Z103 (n:Int)==some (plV (n:Int)))&&(decide (0<=(plV (n:Int)).1)&&decide ((plV (n:Int)).1<256)))=true:=by
 set_option maxRecDepth 100000 in kernel_rfl
theorem pl_at (c:UInt8):Z103 ((c.toNat:Nat):Int)=some (plV ((c.toNat:Nat):Int))/\0<=(plV ((c.toNat:Nat):Int)).1/\(plV ((c.toNat:Nat):Int)).1<256:=by
 have h:=List.all_eq_true.1 pl_tab c.toNat (List.mem_range.2 c.toNat_lt);simp only [Bool.and_eq_true,decide_eq_true_eq,beq_iff_eq] at h;exact⟨h.1,h.2.1,h.2.2⟩
theorem simple_plain (n:Int):Z40 n=Z103 n:=rfl
def Rp (B:Strings_Builder) (l:Bs):Prop:=(l=[]/\B.Fbuf=⟨true,[]⟩)\/(l≠[]/\B.Fbuf=⟨false,l.map fun b=>(b.toNat:Int)⟩)
theorem Rp.buf {B:Strings_Builder}{l:Bs}(h:Rp B l):B.Fbuf.l=l.map fun b=>(b.toNat:Int):=by
 rcases h with ⟨rfl,h⟩|⟨_,h⟩<;>rw [h]; rfl
theorem byte_cast {n:Int}(h0:0<=n) (h1:n<256):((UInt8.ofNat n.toNat).toNat:Int)=n:=by
 rw [UInt8.toNat_ofNat',Nat.mod_eq_of_lt (by omega)]; omega
theorem Rp.wb {B:Strings_Builder}{l:Bs}(h:Rp B l){n:Int}(h0:0<=n) (h1:n<256) (hl:l.length<=1048576):∃B',Z86 B n=some (false,B')/\Rp B' (l++[UInt8.ofNat n.toNat]):=by
 refine⟨⟨true,⟨false,(l++[UInt8.ofNat n.toNat]).map fun b=>(b.toNat:Int)⟩⟩, ?_,.inr ⟨by simp,rfl⟩⟩;have hb:=h.buf;have hlen:B.Fbuf.l.length=l.length:=by rw [hb,List.length_map]
 unfold Z86 Z88 appC;simp only [oB];rw [if_pos (by rw [hlen]; simp only [List.length_cons,List.length_nil]; unfold maxN; omega)];simp only [oB,hb,List.map_append,List.map_cons,List.map_nil,byte_cast h0 h1,List.isEmpty_cons,Bool.and_false]
theorem Rp.str {B:Strings_Builder}{l:Bs}(h:Rp B l):Z85 B=some l:=by
 unfold Z85 bldStr;rw [if_pos]
 ·refine congrArg some ?_;unfold bytesC;rw [h.buf,List.map_map];conv=>rhs; rw [<- List.map_id l]
  refine List.map_congr_left fun b _=>?_;simp
 ·refine⟨?_, ?_⟩
  ·rw [h.buf,List.all_map,List.all_eq_true];intro b _;have:=b.toNat_lt;simp; omega
  ·rcases h with ⟨_,h⟩|⟨h2,h⟩
   ·rw [h]; exact .inl ⟨rfl,rfl⟩
   ·rw [h]; exact .inr ⟨rfl,by simpa using h2⟩
theorem cat_one {l:Bs}{n:Int}(hl:l.length<=1048576):catC l (bytesC (⟨false,[n]⟩:Sl Int))=some (l++[UInt8.ofNat n.toNat]):=by
 unfold catC bytesC;rw [if_pos (by simp only [List.map_cons,List.map_nil,List.length_cons,List.length_nil]; unfold maxS; omega)];rfl
def hex4 (a b c d:Int):Int:=bif decide (hvV a<0)||(decide (hvV b<0)||(decide (hvV c<0)||decide (hvV d<0))) then -1 else((hvV a*16+hvV b)*16+hvV c)*16+hvV d
theorem code_step (s:Bs) (n:Nat) (v:Int) (i:Nat) (c:UInt8) (hc:s[i]?=some c) (h4:i<4) (h0:0<=v) (h1:v<=65536):Z37_l12 s (n+1) v (i:Int)=bif decide (hvV ((c.toNat:Nat):Int)<0) then some (-1) else Z37_l12 s n (v*16+hvV ((c.toNat:Nat):Int)) ((i+1:Nat):Int):=by
 obtain⟨e1,-,-,e4,e5⟩:=hex_at c;have m1:mulC 16 v=some (v*16):=by unfold mulC; rw [if_pos (by omega),Int.mul_comm]
 have one:addC (i:Int) 1=some (((i+1:Nat)):Int):=by rw [addC_ok (by omega)]; rfl
 have two:addC (v*16) (hvV ((c.toNat:Nat):Int))=some (v*16+hvV ((c.toNat:Nat):Int)):=addC_ok (by omega);rw [Z37_l12,show decide ((i:Int)<4)=true from dT (by omega),idxC_nat,hc,cond_true,oB,e1,oB];rw [m1,oB,oB,e1,oB,two,oB,one,oB]
theorem code_eq (a b c d:UInt8):Z37 [a,b,c,d]=some (hex4 (a.toNat:Nat) (b.toNat:Nat) (c.toNat:Nat) (d.toNat:Nat)):=by
 obtain⟨-,-,-,a4,a5⟩:=hex_at a;obtain⟨-,-,-,b4,b5⟩:=hex_at b;obtain⟨-,-,-,c4,c5⟩:=hex_at c;obtain⟨-,-,-,d4,d5⟩:=hex_at d;unfold Z37;rw [show (!decide ((((([a,b,c,d]:Bs).length:Nat)):Int)=4))=false from rfl,cond_false];obtain⟨m,hm⟩:∃m,F0=m+1+1+1+1+1:=⟨4611686018427387899,by rw [F0_eq]⟩;rw [hm];unfold hex4;have s1:=code_step [a,b,c,d] (m+1+1+1+1) 0 0 a rfl (by omega) (by omega) (by omega);rw [show (((0:Nat):Int))=0 from rfl] at s1
 rw [s1];cases ha:decide (hvV ((a.toNat:Nat):Int)<0)
 ·have ha:=of_decide_eq_false ha;rw [cond_false,code_step [a,b,c,d] (m+1+1+1) _ 1 b rfl (by omega) (by omega) (by omega)];cases hb:decide (hvV ((b.toNat:Nat):Int)<0)
  ·have hb:=of_decide_eq_false hb;rw [cond_false,code_step [a,b,c,d] (m+1+1) _ 2 c rfl (by omega) (by omega) (by omega)];cases hc:decide (hvV ((c.toNat:Nat):Int)<0)
   ·have hc:=of_decide_eq_false hc;rw [cond_false,code_step [a,b,c,d] (m+1) _ 3 d rfl (by omega) (by omega) (by omega)];cases hd:decide (hvV ((d.toNat:Nat):Int)<0)
    ·rw [cond_false,Z37_l12];have e:(0*16+hvV ((a.toNat:Nat):Int))=hvV ((a.toNat:Nat):Int):=by omega
     rw [e];rfl
    ·rfl
   ·rfl
  ·rfl
 ·rfl
theorem hexT_step (y:Strings_Builder) (j:Int) (s:Sl Int) (k:Int->Strings_Builder->Option (Bs×Int)) (n:Nat) (v:Int) (i:Nat) (c:UInt8) (hc:s.l[i]?=some ((c.toNat:Nat):Int)) (h0:0<=v) (h1:v<=65536):Z102_l81 y j s k (n+1) v i=bif decide (hvV ((c.toNat:Nat):Int)<0) then some ([],3) else Z102_l81 y j s k n (v*16+hvV ((c.toNat:Nat):Int)) (i+1):=by
 obtain⟨-,e2,e3,e4,e5⟩:=hex_at c;have hi:=(List.getElem?_eq_some_iff.1 hc).1;rw [Z102_l81,show decide (((i:Nat):Int)<((s.l.length:Nat):Int))=true from dT (by omega),hc];have ei:∀f:Int->Option (Bs×Int),(Z95 ([48,49,50,51,52,53,54,55,56,57,97,98,99,100,101,102]:Bs) (IntKind.wrap .u8 ((BitVec.ofInt (IntKind.bits .u8) ((c.toNat:Nat):Int) ||| BitVec.ofInt (IntKind.bits .u8) (32:Int)).toNat:Int))).bind f=f (ixV ((c.toNat:Nat):Int)):=fun _=>rfl
 simp only [cond_true,oB];rw [ei];rw [show ((((decide (ixV ((c.toNat:Nat):Int)<(0:Int)))||(decide (((c.toNat:Nat):Int)<(48:Int))))||((decide ((57:Int)<((c.toNat:Nat):Int)))&&(decide (((c.toNat:Nat):Int)<(65:Int))))))=decide (hvV ((c.toNat:Nat):Int)<0) from e2];cases hv:decide (hvV ((c.toNat:Nat):Int)<0)
 ·have hv:=of_decide_eq_false hv;have e3:ixV ((c.toNat:Nat):Int)=hvV ((c.toNat:Nat):Int):=e3.resolve_left hv;have m1:mulC v 16=some (v*16):=by unfold mulC; rw [if_pos (by omega)]
  rw [cond_false,cond_false,m1,oB,e3,addC_ok (by omega),oB]
 ·rfl
theorem hexT_eq (y:Strings_Builder) (j:Int) (a b c d:UInt8) (k:Int->Strings_Builder->Option (Bs×Int)):Z102_l81 y j (strSl [a,b,c,d]) k ((strSl [a,b,c,d]).l.length+1) 0 0=bif decide (hex4 (a.toNat:Nat) (b.toNat:Nat) (c.toNat:Nat) (d.toNat:Nat)<0)||decide (255<hex4 (a.toNat:Nat) (b.toNat:Nat) (c.toNat:Nat) (d.toNat:Nat)) then some ([],3) else(Z86 y (IntKind.wrap .u8 (hex4 (a.toNat:Nat) (b.toNat:Nat) (c.toNat:Nat) (d.toNat:Nat)))).bind fun x73=>(addC j (4:Int)).bind fun x74=>Z102_j29 k x74 x73.2:=by
 obtain⟨-,-,-,a4,a5⟩:=hex_at a;obtain⟨-,-,-,b4,b5⟩:=hex_at b;obtain⟨-,-,-,c4,c5⟩:=hex_at c;obtain⟨-,-,-,d4,d5⟩:=hex_at d;show Z102_l81 y j (strSl [a,b,c,d]) k (0+1+1+1+1+1) 0 0=_;rw [hexT_step y j (strSl [a,b,c,d]) k _ 0 0 a rfl (by omega) (by omega)];cases ha:decide (hvV ((a.toNat:Nat):Int)<0)
 ·have ha':=of_decide_eq_false ha;rw [cond_false,hexT_step y j (strSl [a,b,c,d]) k _ _ 1 b rfl (by omega) (by omega)];cases hb:decide (hvV ((b.toNat:Nat):Int)<0)
  ·have hb':=of_decide_eq_false hb;rw [cond_false,hexT_step y j (strSl [a,b,c,d]) k _ _ 2 c rfl (by omega) (by omega)];cases hc:decide (hvV ((c.toNat:Nat):Int)<0)
   ·have hc':=of_decide_eq_false hc;rw [cond_false,hexT_step y j (strSl [a,b,c,d]) k _ _ 3 d rfl (by omega) (by omega)];cases hd:decide (hvV ((d.toNat:Nat):Int)<0)
    ·have hd':=of_decide_eq_false hd;have e:(0*16+hvV ((a.toNat:Nat):Int))=hvV ((a.toNat:Nat):Int):=by omega
     have e4:hex4 (a.toNat:Nat) (b.toNat:Nat) (c.toNat:Nat) (d.toNat:Nat)=((hvV ((a.toNat:Nat):Int)*16+hvV ((b.toNat:Nat):Int))*16+hvV ((c.toNat:Nat):Int))*16+hvV ((d.toNat:Nat):Int):=by
      unfold hex4; rw [ha,hb,hc,hd]; rfl
     rw [cond_false,Z102_l81,e4,e,show decide (((((hvV ((a.toNat:Nat):Int)*16+hvV ((b.toNat:Nat):Int))*16+hvV ((c.toNat:Nat):Int))*16+hvV ((d.toNat:Nat):Int))<0))=false from dF (by omega)];rfl
    ·have e4:hex4 (a.toNat:Nat) (b.toNat:Nat) (c.toNat:Nat) (d.toNat:Nat) = -1:=by unfold hex4; rw [hd]; simp
     rw [e4]; rfl
   ·have e4:hex4 (a.toNat:Nat) (b.toNat:Nat) (c.toNat:Nat) (d.toNat:Nat) = -1:=by unfold hex4; rw [hc]; simp
    rw [e4]; rfl
  ·have e4:hex4 (a.toNat:Nat) (b.toNat:Nat) (c.toNat:Nat) (d.toNat:Nat) = -1:=by unfold hex4; rw [hb]; simp
   rw [e4]; rfl
 ·have e4:hex4 (a.toNat:Nat) (b.toNat:Nat) (c.toNat:Nat) (d.toNat:Nat) = -1:=by unfold hex4; rw [ha]; simp
  rw [e4]; rfl
end Go.Proofs

namespace Go.Proofs
open Go Go.Ab
theorem add_nat {i k:Nat}(h:i<=2097152) (hk:k<=2097152):addC (i:Int) (k:Int)=some ((i+k:Nat):Int):=by rw [addC_ok (by omega)]; exact some_nat rfl
theorem j29_eq (k:Int->Strings_Builder->Option (Bs×Int)){i:Nat}(h:i<=2097152) (B:Strings_Builder):Z102_j29 k (i:Int) B=k ((i+1:Nat):Int) B:=by
 unfold Z102_j29;rw [show (1:Int)=((1:Nat):Int) from rfl,add_nat h (by omega),oB]
theorem wrap8_byte (c:UInt8):UInt8.ofNat (((c.toNat:Nat):Int)).toNat=c:=by
 rw [Int.toNat_natCast]; exact UInt8.ofNat_toNat
theorem wrap8_small {n:Int}(h0:0<=n) (h1:n<256):IntKind.wrap .u8 n=n:=by
 simp [IntKind.wrap,IntKind.bits,IntKind.signed]; omega
theorem four {s:Bs}{i:Nat}(h:i+4<=s.length):∃a b c d,(s.drop i).take 4=[a,b,c,d]:=by
 have h1:∀k,k<4->∃c,s[i+k]?=some c:=fun k hk=>⟨_,List.getElem?_eq_getElem (by omega)⟩;obtain⟨a,ha⟩:=h1 0 (by omega);obtain⟨b,hb⟩:=h1 1 (by omega);obtain⟨c,hc⟩:=h1 2 (by omega);obtain⟨d,hd⟩:=h1 3 (by omega);exact⟨a,b,c,d,by rw [drop_cons (show s[i]?=some a from ha),drop_cons hb,drop_cons hc,drop_cons hd]; rfl⟩
def badC (c:UInt8):Bool:=((decide (((c.toNat:Nat):Int)<(32:Int)))||(decide ((126:Int)<((c.toNat:Nat):Int))))||(decide (((c.toNat:Nat):Int)=(34:Int)))
theorem tU_stop (x:Bs) (n i:Nat) (B:Strings_Builder) (h:x.length<=i):Z102_l22 x (n+1) (i:Int) B=Z102_j17 B:=by
 rw [Z102_l22,show decide ((i:Int)<((x.length:Nat):Int))=false from dF (by omega),cond_false]
theorem rU_stop (x:Bs) (n i:Nat) (o:Bs) (h:x.length<=i):Z36_l19 x (n+1) o (i:Int)=some (o,0):=by
 rw [Z36_l19,show decide ((i:Int)<((x.length:Nat):Int))=false from dF (by omega),cond_false]; rfl
theorem tU_bad {x:Bs}(n:Nat){i:Nat}(B:Strings_Builder){c:UInt8}(hc:x[i]?=some c) (h:badC c=true):Z102_l22 x (n+1) (i:Int) B=some ([],3):=by
 have hi:=(List.getElem?_eq_some_iff.1 hc).1;unfold badC at h;rw [Z102_l22,show decide ((i:Int)<((x.length:Nat):Int))=true from dT (by omega),cond_true,idxC_nat,hc,oB,h,cond_true]
theorem rU_bad {x:Bs}(n:Nat){i:Nat}(o:Bs){c:UInt8}(hc:x[i]?=some c) (h:badC c=true):Z36_l19 x (n+1) o (i:Int)=some ([],3):=by
 have hi:=(List.getElem?_eq_some_iff.1 hc).1;unfold badC at h;rw [Z36_l19,show decide ((i:Int)<((x.length:Nat):Int))=true from dT (by omega),cond_true,idxC_nat,hc,oB,h,cond_true]
theorem tU_char {x:Bs}(n:Nat){i:Nat}{B B':Strings_Builder}{c:UInt8}(hi2:i<=2097152) (hc:x[i]?=some c) (h:badC c=false) (h92:decide (((c.toNat:Nat):Int)=92)=false) (hw:Z86 B ((c.toNat:Nat):Int)=some (false,B')):Z102_l22 x (n+1) (i:Int) B=Z102_l22 x n ((i+1:Nat):Int) B':=by
 have hi:=(List.getElem?_eq_some_iff.1 hc).1;unfold badC at h;rw [Z102_l22,show decide ((i:Int)<((x.length:Nat):Int))=true from dT (by omega),cond_true,idxC_nat,hc,oB,h,cond_false,h92,Bool.not_false,cond_true,hw,oB,j29_eq _ hi2]
theorem rU_char {x:Bs}(n:Nat){i:Nat}{o:Bs}{c:UInt8}(hi2:i<=1048576) (ho:o.length<=1048576) (hc:x[i]?=some c) (h:badC c=false) (h92:decide (((c.toNat:Nat):Int)=92)=false):Z36_l19 x (n+1) o (i:Int)=Z36_l19 x n (o++[c]) ((i+1:Nat):Int):=by
 have hi:=(List.getElem?_eq_some_iff.1 hc).1;unfold badC at h;have one:addC (i:Int) 1=some (((i+1:Nat)):Int):=add_nat (k:=1) (by omega) (by omega);rw [Z36_l19,show decide ((i:Int)<((x.length:Nat):Int))=true from dT (by omega),cond_true,idxC_nat,hc,oB,h,cond_false,h92,Bool.not_false,cond_true,cat_one ho,oB,one,oB,wrap8_byte]
theorem tU_end {x:Bs}(n:Nat){i:Nat}(B:Strings_Builder){c:UInt8}(hi2:i<=1048576) (hc:x[i]?=some c) (h:badC c=false) (h92:decide (((c.toNat:Nat):Int)=92)=true) (hn:x.length<=i+1):Z102_l22 x (n+1) (i:Int) B=some ([],3):=by
 have hi:=(List.getElem?_eq_some_iff.1 hc).1;unfold badC at h;have one:addC (i:Int) 1=some (((i+1:Nat)):Int):=add_nat (k:=1) (by omega) (by omega);rw [Z102_l22,show decide ((i:Int)<((x.length:Nat):Int))=true from dT (by omega),cond_true,idxC_nat,hc,oB,h,cond_false,h92,Bool.not_true,cond_false,one,oB,show decide (((i+1:Nat):Int)=((x.length:Nat):Int))=true from dT (by omega),cond_true]
theorem rU_end {x:Bs}(n:Nat){i:Nat}(o:Bs){c:UInt8}(hi2:i<=1048576) (hc:x[i]?=some c) (h:badC c=false) (h92:decide (((c.toNat:Nat):Int)=92)=true) (hn:x.length<=i+1):Z36_l19 x (n+1) o (i:Int)=some ([],3):=by
 have hi:=(List.getElem?_eq_some_iff.1 hc).1;unfold badC at h;have one:addC (i:Int) 1=some (((i+1:Nat)):Int):=add_nat (k:=1) (by omega) (by omega);rw [Z36_l19,show decide ((i:Int)<((x.length:Nat):Int))=true from dT (by omega),cond_true,idxC_nat,hc,oB,h,cond_false,h92,Bool.not_true,cond_false,one,oB,show decide (((x.length:Nat):Int)<=((i+1:Nat):Int))=true from dT (by omega),cond_true]
theorem tU_esc {x:Bs}(n:Nat){i:Nat}(B:Strings_Builder){c d:UInt8}(hi2:i<=1048576) (hc:x[i]?=some c) (h:badC c=false) (h92:decide (((c.toNat:Nat):Int)=92)=true) (hd:x[i+1]?=some d) :
  Z102_l22 x (n+1) (i:Int) B=bif (plV ((d.toNat:Nat):Int)).2 then((Z86 B (plV ((d.toNat:Nat):Int)).1).bind fun x58=>Z102_j29 (Z102_l22 x n) ((i+1:Nat):Int) x58.2) else bif (!decide (((d.toNat:Nat):Int)=(117:Int)))||(decide (x.length<=i+5)) then(some (([]:Bs),(3:Int))) else((cutC x (some ((i+2:Nat):Int)) (some ((i+6:Nat):Int))).bind fun x78=>(bytesOf x78).bind fun x79=>Z102_l81 B ((i+1:Nat):Int) x79 (Z102_l22 x n) (x79.l.length+1) (0:Int) 0):=by
 have hi:=(List.getElem?_eq_some_iff.1 hc).1;have hi1:=(List.getElem?_eq_some_iff.1 hd).1;unfold badC at h;have one:addC (i:Int) 1=some (((i+1:Nat)):Int):=add_nat (k:=1) (by omega) (by omega);have a1:addC ((i+1:Nat):Int) 1=some (((i+2:Nat)):Int):=add_nat (i:=i+1) (k:=1) (by omega) (by omega);have a4:addC ((i+1:Nat):Int) 4=some (((i+5:Nat)):Int):=add_nat (i:=i+1) (k:=4) (by omega) (by omega);have a5:addC ((i+1:Nat):Int) 5=some (((i+6:Nat)):Int):=add_nat (i:=i+1) (k:=5) (by omega) (by omega)
 rw [Z102_l22,show decide ((i:Int)<((x.length:Nat):Int))=true from dT (by omega),cond_true,idxC_nat,hc,oB,h,cond_false,h92,Bool.not_true,cond_false,one,oB,show decide (((i+1:Nat):Int)=((x.length:Nat):Int))=false from dF (by omega),cond_false,idxC_nat,hd,oB,(pl_at d).1,oB];cases (plV ((d.toNat:Nat):Int)).2
 ·rw [cond_false,cond_false,oB,a4,a1,a5];cases decide (((d.toNat:Nat):Int)=(117:Int))
  ·rfl
  ·unfold guardO;rw [Bool.not_true,Bool.not_false,if_pos rfl,oB,Bool.false_or,Bool.false_or,oB,oB,show decide (((x.length:Nat):Int)<=((i+5:Nat):Int))=decide (x.length<=i+5) from decide_eq_decide.2 (by omega)]
 ·rfl
theorem rU_esc {x:Bs}(n:Nat){i:Nat}{o:Bs}{c d:UInt8}(hi2:i<=1048576) (ho:o.length<=1048576) (hc:x[i]?=some c) (h:badC c=false) (h92:decide (((c.toNat:Nat):Int)=92)=true) (hd:x[i+1]?=some d) :
  Z36_l19 x (n+1) o (i:Int)=bif (plV ((d.toNat:Nat):Int)).2 then Z36_l19 x n (o++[UInt8.ofNat (plV ((d.toNat:Nat):Int)).1.toNat]) ((i+2:Nat):Int) else bif (!decide (((d.toNat:Nat):Int)=(117:Int)))||(decide (x.length<=i+5)) then(some (([]:Bs),(3:Int))) else((cutC x (some ((i+2:Nat):Int)) (some ((i+6:Nat):Int))).bind fun x66=>(Z37 x66).bind fun x67=>bif ((decide (x67<(0:Int)))||(decide ((255:Int)<x67))) then(some (([]:Bs),(3:Int))) else Z36_l19 x n (o++[UInt8.ofNat (IntKind.wrap .u8 x67).toNat]) ((i+6:Nat):Int)):=by
 have hi:=(List.getElem?_eq_some_iff.1 hc).1;have hi1:=(List.getElem?_eq_some_iff.1 hd).1;unfold badC at h;have one:addC (i:Int) 1=some (((i+1:Nat)):Int):=add_nat (k:=1) (by omega) (by omega);have a2:addC (i:Int) 2=some (((i+2:Nat)):Int):=add_nat (k:=2) (by omega) (by omega);have a6:addC (i:Int) 6=some (((i+6:Nat)):Int):=add_nat (k:=6) (by omega) (by omega);rw [Z36_l19,show decide ((i:Int)<((x.length:Nat):Int))=true from dT (by omega),cond_true,idxC_nat,hc,oB,h,cond_false,h92,Bool.not_true,cond_false,one,oB,show decide (((x.length:Nat):Int)<=((i+1:Nat):Int))=false from dF (by omega),cond_false,oB,idxC_nat,hd,oB,simple_plain,(pl_at d).1,oB]
 cases (plV ((d.toNat:Nat):Int)).2
 ·rw [cond_false,cond_false,oB,idxC_nat,hd,oB,a6,a2];cases decide (((d.toNat:Nat):Int)=(117:Int))
  ·rfl
  ·unfold guardO;rw [Bool.not_true,Bool.not_false,if_pos rfl,oB,Bool.false_or,Bool.false_or,oB,oB,show decide (((x.length:Nat):Int)<((i+6:Nat):Int))=decide (x.length<=i+5) from decide_eq_decide.2 (by omega)];cases decide (x.length<=i+5)
   ·simp only [cond_false,cat_one ho,oB]
   ·rfl
 ·rw [cond_true,cond_true,cat_one ho,oB,a2,oB]
theorem unq_loop (x:Bs) (hx:x.length<=1048576):∀(n i:Nat) (B:Strings_Builder) (o:Bs),Rp B o->o.length<=i->i<=x.length->x.length-i<n->∃r e,Z102_l22 x n (i:Int) B=some (r,e)/\Z36_l19 x n o (i:Int)=some (r,e)/\r.length<=x.length
 | 0,_,_,_,_,_,_,h=>by omega
 | n+1,i,B,o,hB,ho,hi,hn=>by
  by_cases hlt:i<x.length
  ·obtain⟨c,hc⟩:∃c,x[i]?=some c:=⟨x[i],List.getElem?_eq_getElem hlt⟩;cases hb:badC c
   ·cases h92:decide (((c.toNat:Nat):Int)=92)
    ·obtain⟨B',hw,hB'⟩:=hB.wb (n:=((c.toNat:Nat):Int)) (by omega) (by have:=c.toNat_lt; omega) (by omega);rw [tU_char n (by omega) hc hb h92 hw,rU_char n (by omega) (by omega) hc hb h92];rw [wrap8_byte] at hB';exact unq_loop x hx n (i+1) B' _ hB' (by simp; omega) (by omega) (by omega)
    ·by_cases h1:x.length<=i+1
     ·exact⟨[],3,tU_end n B (by omega) hc hb h92 h1,rU_end n o (by omega) hc hb h92 h1,by simp⟩
     ·obtain⟨d,hd⟩:∃d,x[i+1]?=some d:=⟨_,List.getElem?_eq_getElem (show i+1<x.length by omega)⟩;rw [tU_esc n B (by omega) hc hb h92 hd,rU_esc n (by omega) (by omega) hc hb h92 hd];cases (plV ((d.toNat:Nat):Int)).2
      ·rw [cond_false,cond_false];cases hs:(!decide (((d.toNat:Nat):Int)=(117:Int)))||(decide (x.length<=i+5))
       ·have h6:i+6<=x.length:=by
         simp only [Bool.or_eq_false_iff,decide_eq_false_iff_not] at hs; omega
        obtain⟨p,q,r,s,h4⟩:=four (s:=x) (i:=i+2) (by omega);have hcut:cutC x (some ((i+2:Nat):Int)) (some ((i+6:Nat):Int))=some [p,q,r,s]:=by
         rw [cut_part (by omega) (by omega),show i+6-(i+2)=4 by omega,h4]
        have hbo:bytesOf [p,q,r,s]=some (strSl [p,q,r,s]):=rfl;rw [cond_false,cond_false,hcut,oB,oB,hbo,oB,hexT_eq,code_eq,oB];generalize hex4 ((p.toNat:Nat):Int) ((q.toNat:Nat):Int) ((r.toNat:Nat):Int) ((s.toNat:Nat):Int)=v;cases hv:decide (v<0)||decide (255<v)
        ·simp only [Bool.or_eq_false_iff,decide_eq_false_iff_not] at hv;rw [cond_false,cond_false,wrap8_small (by omega) (by omega)];obtain⟨B',hw,hB'⟩:=hB.wb (n:=v) (by omega) (by omega) (by omega);have a4:addC ((i+1:Nat):Int) 4=some (((i+5:Nat)):Int):=add_nat (i:=i+1) (k:=4) (by omega) (by omega);rw [hw,oB,a4,oB,j29_eq _ (by omega)];exact unq_loop x hx n (i+6) B' _ hB' (by simp; omega) (by omega) (by omega)
        ·exact⟨[],3,rfl,rfl,by simp⟩
       ·exact⟨[],3,rfl,rfl,by simp⟩
      ·obtain⟨-,p0,p1⟩:=pl_at d;obtain⟨B',hw,hB'⟩:=hB.wb p0 p1 (by omega);rw [cond_true,cond_true,hw,oB,j29_eq _ (by omega)];exact unq_loop x hx n (i+2) B' _ hB' (by simp; omega) (by omega) (by omega)
   ·exact⟨[],3,tU_bad n B hc hb,rU_bad n o hc hb,by simp⟩
  ·refine⟨o,0, ?_,rU_stop x n i o (by omega),by omega⟩;rw [tU_stop x n i B (by omega)];unfold Z102_j17;rw [hB.str,oB]
theorem unquote_eq {s:Bs}(hs:s.length<=1048576):∃r e,Z102 s=some (r,e)/\Z36 s=some (r,e)/\r.length<=s.length:=by
 unfold Z102 Z36;by_cases h2:s.length<2
 ·rw [show decide (((s.length:Nat):Int)<2)=true from dT (by omega)];exact⟨[],3,rfl,rfl,by simp⟩
 ·rw [show decide (((s.length:Nat):Int)<2)=false from dF (by omega)];obtain⟨c,hc⟩:∃c,s[0]?=some c:=⟨_,List.getElem?_eq_getElem (show 0<s.length by omega)⟩;have hsub:subC ((s.length:Nat):Int) 1=some ((s.length-1:Nat):Int):=by rw [subC_ok (by omega)]; exact congrArg some (by omega)
  obtain⟨z,hz⟩:∃z,s[s.length-1]?=some z:=⟨_,List.getElem?_eq_getElem (show s.length-1<s.length by omega)⟩;have hcut:cutC s (some (1:Int)) (some ((s.length-1:Nat):Int))=some ((s.drop 1).take (s.length-1-1)):=cut_part (i:=1) (by omega) (by omega);rw [hc,hsub];simp only [guardO,Bool.not_false,if_true,oB,Bool.false_or,idxC_nat,hz];cases decide (((c.toNat:Nat):Int)=34)
  ·exact⟨[],3,rfl,rfl,by simp⟩
  ·simp only [Bool.not_true,Bool.not_false,if_true,oB,Bool.false_or,idxC_nat,hz,hcut];cases decide (((z.toNat:Nat):Int)=34)
   ·exact⟨[],3,rfl,rfl,by simp⟩
   ·obtain⟨r,e,h1,h3,h4⟩:=unq_loop ((s.drop 1).take (s.length-1-1)) (by simp; omega) F0 0 Strings_Builder.zero [] (.inl ⟨rfl,rfl⟩) (by simp) (by omega) (by rw [F0_eq]; simp; omega);exact⟨r,e,h1,h3,by simp at h4; omega⟩
end Go.Proofs

namespace Go.Proofs
open Go Go.Ab
def sgV (n:Int):Bool:=(Z47 n).getD false
theorem sg_tab:(List.range 256).all (fun n=>(Z47 (n:Int)==some (sgV (n:Int)))&&((Z91 ([33,36,38,40,41,58,61,64,91,93,123,124,125]:Bs) (n:Int)==some (sgV (n:Int)))))=true:=by
 set_option maxRecDepth 100000 in kernel_rfl
theorem sg_at (c:UInt8):Z47 ((c.toNat:Nat):Int)=some (sgV ((c.toNat:Nat):Int))/\Z91 ([33,36,38,40,41,58,61,64,91,93,123,124,125]:Bs) ((c.toNat:Nat):Int)=some (sgV ((c.toNat:Nat):Int)):=by
 have h:=List.all_eq_true.1 sg_tab c.toNat (List.mem_range.2 c.toNat_lt);simp only [Bool.and_eq_true,beq_iff_eq] at h;exact h
theorem word_pos {s:Bs}{i:Nat}{c:UInt8}(hc:s[i]?=some c) (h:isW c=true):1<=wordN (s.drop i):=by
 rw [drop_cons hc,wordN_cons,h,cond_true]; omega
theorem litR_cases (s:Bs) (i:Nat) (hi:i<=s.length):litR s i false = -1\/∃j:Nat,litR s i false=(j:Int)/\i<=j/\j<=s.length:=by
 unfold litR;cases h:litN false (s.drop i) with
 | none=>exact .inl rfl
 | some k => 
  have:=litN_le _ _ _ h;simp only [List.length_drop] at this;exact .inr ⟨i+k,rfl,by omega,by omega⟩
theorem letter_eq' (c:UInt8):Z105 ((c.toNat:Nat):Int)=some (isW c):=rfl
theorem one_eq {s:Bs}(hs:s.length<=1048576){i:Nat}(hi:i<s.length):∃(t:Z8) (j e:Int),Z107 s (i:Int)=some (t,j,e)/\Z46 s (i:Int)=some (⟨t.FKind,t.FText,t.FAt⟩,j,e)/\(e=0->∃m:Nat,j=(m:Int)/\i<m/\m<=s.length):=by
 obtain⟨c,hc⟩:∃c,s[i]?=some c:=⟨_,List.getElem?_eq_getElem hi⟩;have hlt:=c.toNat_lt;have one:addC (i:Int) 1=some (((i+1:Nat)):Int):=add_nat (k:=1) (by omega) (by omega);have three:addC (i:Int) 3=some (((i+3:Nat)):Int):=add_nat (k:=3) (by omega) (by omega);unfold Z107 Z46;rw [idxC_nat,hc];simp only [oB,wrap32];rw [(sg_at c).1,(sg_at c).2,oB,oB];cases hsg:sgV ((c.toNat:Nat):Int)
 ·rw [cond_false,cond_false];by_cases h46:((c.toNat:Nat):Int)=46
  ·have hL:Z45 ((c.toNat:Nat):Int)=some false:=by rw [h46]; rfl
   have hD:Z44 ((c.toNat:Nat):Int)=some false:=by rw [h46]; rfl
   have hcut:cutC s (some (i:Int)) none=some (s.drop i):=cut_from (by omega);rw [dT h46,cond_true,hcut,oB,Z92_eq,oB,three];have hp:Z92_q (s.drop i) ([46,46,46]:Bs)=(decide (i+3<=s.length)&&(List.take 3 (s.drop i)==([46,46,46]:Bs))):=by
    unfold Z92_q Z28_q;simp only [Ab.on];rw [show decide (((([46,46,46]:Bs).length:Nat):Int)<=(((s.drop i).length:Nat):Int))=decide (i+3<=s.length) from decide_eq_decide.2 (by simp only [List.length_cons,List.length_nil,List.length_drop]; omega)];cases decide (i+3<=s.length)<;>rfl
   rw [hp];by_cases h3:i+3<=s.length
   ·have hcut3:cutC s (some (i:Int)) (some ((i+3:Nat):Int))=some ((s.drop i).take 3):=by rw [cut_part (by omega) h3,show i+3-i=3 by omega]
    simp only [guardO,if_true,oB,Bool.true_and];rw [dT (show ((i+3:Nat):Int)<=((s.length:Nat):Int) by omega),if_pos rfl,if_pos rfl,hcut3,dT h3];simp only [oB,Bool.true_and];cases List.take 3 (s.drop i)==([46,46,46]:Bs)
    ·rw [hL,hD,h46];exact⟨_,_,_,rfl,rfl,fun h=>absurd h (by decide)⟩
    ·exact⟨_,_,_,rfl,rfl,fun _=>⟨_,rfl,by omega,h3⟩⟩
   ·simp only [guardO,if_true,oB,Bool.true_and];rw [dF (show ¬((i+3:Nat):Int)<=((s.length:Nat):Int) by omega),if_neg (by decide),if_neg (by decide),dF h3];rw [hL,hD,h46];exact⟨_,_,_,rfl,rfl,fun h=>absurd h (by decide)⟩
  ·rw [dF h46,cond_false];simp only [guardO,Bool.false_and,if_neg (show ¬(false=true) by decide),cond_false];rw [letter_eq' c,rletter_eq,rdigit_eq,oB,oB,oB,isW_eq];have hlet:isL c=true->¬((c.toNat:Nat):Int)=45/\isD c=false:=by
    intro h;unfold isL at h; unfold isD;simp only [Bool.or_eq_true,Bool.and_eq_true,decide_eq_true_eq] at h;refine⟨by omega, ?_⟩;rw [Bool.and_eq_false_iff,decide_eq_false_iff_not,decide_eq_false_iff_not];omega
   rw [show ((decide ((48:Int)<=((c.toNat:Nat):Int)))&&(decide (((c.toNat:Nat):Int)<=(57:Int))))=isD c from rfl];cases hL:isL c
   ·rw [Bool.false_or,cond_false,Bool.or_comm (isD c)];cases hN:decide (((c.toNat:Nat):Int)=(45:Int))||isD c
    ·rw [cond_false,cond_false];have hD:isD c=false:=by rw [Bool.or_eq_false_iff] at hN; exact hN.2
     rw [hD,cond_false];cases h34:decide (((c.toNat:Nat):Int)=(34:Int))
     ·exact⟨_,_,_,rfl,rfl,fun h=>absurd h (by decide)⟩
     ·rw [cond_true,cond_true,literal_eq hs hi,closing_eq hs hi,oB,oB];rcases litR_cases s (i+1) (by omega) with h|⟨j,h,h1,h2⟩
      ·rw [h]; exact⟨_,_,_,rfl,rfl,fun h=>absurd h (by decide)⟩
      ·rw [h,dF (show ¬((j:Int)<0) by omega),cond_false,cond_false,cut_part (by omega) h2,oB,oB];obtain⟨r,e,u1,u2,-⟩:=unquote_eq (s:=(s.drop i).take (j-i)) (by simp; omega);rw [u1,u2];exact⟨_,_,_,rfl,rfl,fun _=>⟨_,rfl,by omega,h2⟩⟩
    ·rw [cond_true,cond_true,one,oB,oB,span_eq hs (by omega),word_eq hs (by omega),oB,oB];have hw:=wordN_le (s.drop (i+1));simp only [List.length_drop] at hw;rw [cut_part (by omega) (by omega),oB,oB];obtain⟨v,h1⟩:=tnum_eq (s:=(s.drop i).take (i+1+wordN (s.drop (i+1))-i)) (by simp; omega);obtain⟨v',h2⟩:=rnum_eq ((s.drop i).take (i+1+wordN (s.drop (i+1))-i))
     rw [h1,h2];exact⟨_,_,_,rfl,rfl,fun _=>⟨_,rfl,by omega,by omega⟩⟩
   ·obtain⟨h45,hD⟩:=hlet hL;have hw:=wordN_le (s.drop i);have hw1:=word_pos hc (by rw [isW_eq,hL]; rfl);simp only [List.length_drop] at hw;rw [dF h45,hD,Bool.or_self,cond_false,Bool.or_false,cond_true,cond_true,span_eq hs (by omega),word_eq hs (by omega),oB,oB,subC_ok (by omega),oB,oB];cases decide ((64:Int)<((i+wordN (s.drop i):Nat):Int)-(i:Int))
    ·rw [cond_false,cond_false,cut_part (by omega) (by omega),oB,oB];exact⟨_,_,_,rfl,rfl,fun _=>⟨_,rfl,by omega,by omega⟩⟩
    ·exact⟨_,_,_,rfl,rfl,fun h=>absurd h (by decide)⟩
 ·rw [cond_true,cond_true,one,oB,oB,cut_part (by omega) (by omega),oB,oB];exact⟨_,_,_,rfl,rfl,fun _=>⟨_,rfl,by omega,by omega⟩⟩
end Go.Proofs

namespace Go.Proofs
open Go Go.Ab
def cvT (t:Z8):Z2:=⟨t.FKind,t.FText,t.FAt⟩
def cvS (s:Sl Z8):Sl Z2:=⟨s.nl,s.l.map cvT⟩
theorem app_one {α:Type}{s:Sl α}{t:α}(h:s.l.length<=1048576):appC 32 s (⟨false,[t]⟩:Sl α)=some ⟨false,s.l++[t]⟩:=by
 unfold appC;rw [if_pos (by simp only [List.length_cons,List.length_nil]; unfold maxN; omega)];simp
theorem app_cv {s:Sl Z8}{t:Z8}(h:s.l.length<=1048576):appC 32 (cvS s) (⟨false,[cvT t]⟩:Sl Z2)=some (cvS ⟨false,s.l++[t]⟩):=by
 rw [app_one (by simp [cvS]; exact h)];simp [cvS]
theorem scan_loop (s:Bs) (hs:s.length<=1048575):∀(n i:Nat) (A:Sl Z8),A.l.length<=i->i<=s.length->s.length-i<n->∃(L:Sl Z8) (p e:Int),Z104_l15 s n A (i:Int)=some (L,p,e)/\Z42_l16 s n (cvS A) (i:Int)=some (cvS L,p,e)/\L.l.length<=s.length+1
 | 0,_,_,_,_,h=>by omega
 | n+1,i,A,hA,hi,hn=>by
  rw [Z104_l15,Z42_l16];by_cases hlt:i<s.length
  ·rw [show decide ((i:Int)<((s.length:Nat):Int))=true from dT (by omega),cond_true,cond_true];obtain⟨t,j,e,h1,h2,h3⟩:=one_eq (s:=s) (by omega) hlt;rw [h1,h2,oB,oB];by_cases he:e=0
   ·obtain⟨m,rfl,h4,h5⟩:=h3 he;rw [show decide (e=0)=true from dT he,Bool.not_true,cond_false,cond_false,app_one (by omega),show (⟨t.FKind,t.FText,t.FAt⟩:Z2)=cvT t from rfl,app_cv (by omega),oB,oB,skip_eq (by omega) h5,rskip_eq (by omega) h5,oB,oB];have hk:=skN_le false (s.drop m);simp only [List.length_drop] at hk;exact scan_loop s hs n _ ⟨false,A.l++[t]⟩ (by simp; omega) (by omega) (by omega)
   ·rw [show decide (e=0)=false from dF he,Bool.not_false,cond_true,cond_true];exact⟨⟨true,[]⟩,_,_,rfl,rfl,by simp⟩
  ·rw [show decide ((i:Int)<((s.length:Nat):Int))=false from dF (by omega),cond_false,cond_false];unfold Z104_j8 Z42_j10;rw [app_one (by omega),show (⟨5,[],((s.length:Nat):Int)⟩:Z2)=cvT ⟨5,[],((s.length:Nat):Int)⟩ from rfl,app_cv (by omega)];exact⟨_,_,_,rfl,rfl,by simp; omega⟩
theorem scan_eq (s:Bs):∃(L:Sl Z8) (p e:Int),Z104 s=some (L,p,e)/\Z42 s=some (cvS L,p,e)/\L.l.length<=65537:=by
 unfold Z104 Z42;by_cases h:s.length<=65536
 ·rw [show decide ((65536:Int)<((s.length:Nat):Int))=false from dF (by omega),cond_false,cond_false];have k1:=skip_eq (s:=s) (i:=0) (by omega) (by omega);have k2:=rskip_eq (s:=s) (i:=0) (by omega) (by omega);have hk:=skN_le false (s.drop 0);rw [show (((0:Nat):Int))=0 from rfl] at k1 k2;rw [k1,k2,oB,oB];simp only [List.length_drop] at hk;obtain⟨L,p,e,h1,h2,h3⟩:=scan_loop s (by omega) F0 (0+skN false (s.drop 0)) ⟨true,[]⟩ (by simp) (by omega) (by rw [F0_eq]; omega)
  exact⟨L,p,e,h1,h2,by omega⟩
 ·rw [show decide ((65536:Int)<((s.length:Nat):Int))=true from dT (by omega),cond_true,cond_true];exact⟨⟨true,[]⟩,_,_,rfl,rfl,by simp⟩
end Go.Proofs

namespace Go.Proofs
open Go Go.Ab
def unqF (s:Bs):Option Bs:=match Z102 s with
 | some (r,e)=>if e=0 then some r else none
 | none=>none
def tokF:Bs->Option (Int×Bs×Nat)
 | []=>none
 | c::r =>
  if sgV ((c.toNat:Nat):Int)=true then some (1,[c],1)
  else if ((c.toNat:Nat):Int)=46 then(if (c::r).take 3=[46,46,46] then some (1,[46,46,46],3) else none)
  else if isL c=true then(if 64<wordN (c::r) then none else some (2,(c::r).take (wordN (c::r)),wordN (c::r)))
  else if isD c=true\/((c.toNat:Nat):Int)=45 then(if numE ((c::r).take (1+wordN r))=0 then some (3,(c::r).take (1+wordN r),1+wordN r) else none)
  else if ((c.toNat:Nat):Int)=34 then(match litN false r with
   | none=>none
   | some k=>match unqF ((c::r).take (1+k)) with
    | none=>none
    | some t=>some (4,t,1+k))
  else none
theorem unqF_eq {s:Bs}(hs:s.length<=1048576):∃r e,Z102 s=some (r,e)/\Z36 s=some (r,e)/\r.length<=s.length/\unqF s=if e=0 then some r else none:=by
 obtain⟨r,e,h1,h2,h3⟩:=unquote_eq hs;refine⟨r,e,h1,h2,h3, ?_⟩;unfold unqF;rw [h1]
def Rd1 (s:Bs) (i:Nat):Prop:=(∃k t w,tokF (s.drop i)=some (k,t,w)/\Z107 s (i:Int)=some (⟨k,t,(i:Int)⟩,((i+w:Nat):Int),0))\/(tokF (s.drop i)=none/\∃t j e,Z107 s (i:Int)=some (t,j,e)/\e≠0)
theorem read_spec {s:Bs}(hs:s.length<=1048576){i:Nat}(hi:i<s.length):Rd1 s i:=by
 obtain⟨c,hc⟩:∃c,s[i]?=some c:=⟨_,List.getElem?_eq_getElem hi⟩;have hlt:=c.toNat_lt;have one:addC (i:Int) 1=some (((i+1:Nat)):Int):=add_nat (k:=1) (by omega) (by omega);have three:addC (i:Int) 3=some (((i+3:Nat)):Int):=add_nat (k:=3) (by omega) (by omega);have hd:=drop_cons hc;unfold Rd1;rw [hd];unfold Z107 tokF;rw [idxC_nat,hc];simp only [oB,wrap32];rw [(sg_at c).2,oB]
 cases hsg:sgV ((c.toNat:Nat):Int)
 ·rw [cond_false,if_neg (by decide)];by_cases h46:((c.toNat:Nat):Int)=46
  ·have hcut:cutC s (some (i:Int)) none=some (s.drop i):=cut_from (by omega);rw [dT h46,cond_true,hcut,oB,Z92_eq,oB,three,if_pos h46];have hp:Z92_q (s.drop i) ([46,46,46]:Bs)=(decide (i+3<=s.length)&&(List.take 3 (s.drop i)==([46,46,46]:Bs))):=by
    unfold Z92_q Z28_q;simp only [Ab.on];rw [show decide (((([46,46,46]:Bs).length:Nat):Int)<=(((s.drop i).length:Nat):Int))=decide (i+3<=s.length) from decide_eq_decide.2 (by simp only [List.length_cons,List.length_nil,List.length_drop]; omega)];cases decide (i+3<=s.length)<;>rfl
   rw [hp,hd];by_cases ht:List.take 3 (c::s.drop (i+1))=[46,46,46]
   ·have h3:i+3<=s.length:=by
     have:=congrArg List.length ht;simp only [List.length_take,List.length_cons,List.length_drop,List.length_nil] at this;omega
    left
    refine⟨1,[46,46,46],3,by rw [if_pos ht], ?_⟩;rw [ht,dT h3]; rfl
   ·right
    refine⟨by rw [if_neg ht],⟨0,[],0⟩,0,3, ?_,show (3:Int)≠0 by decide⟩;rw [show (List.take 3 (c::s.drop (i+1))==([46,46,46]:Bs))=false by simpa using ht,Bool.and_false]; rfl
  ·rw [dF h46,cond_false,if_neg h46,letter_eq' c,isW_eq];have hlet:isL c=true->¬((c.toNat:Nat):Int)=45/\isD c=false:=by
    intro h;unfold isL at h; unfold isD;simp only [Bool.or_eq_true,Bool.and_eq_true,decide_eq_true_eq] at h;refine⟨by omega, ?_⟩;rw [Bool.and_eq_false_iff,decide_eq_false_iff_not,decide_eq_false_iff_not];omega
   rw [show ((decide ((48:Int)<=((c.toNat:Nat):Int)))&&(decide (((c.toNat:Nat):Int)<=(57:Int))))=isD c from rfl];cases hL:isL c
   ·rw [if_neg (by decide)];by_cases hN:isD c=true\/((c.toNat:Nat):Int)=45
    ·rw [if_pos hN,show (decide (((c.toNat:Nat):Int)=45)||isD c)=true by simp only [Bool.or_eq_true,decide_eq_true_eq]; exact hN.symm];rw [cond_true,one,oB,span_eq hs (by omega),oB];have hw:=wordN_le (s.drop (i+1));simp only [List.length_drop] at hw;rw [cut_part (by omega) (by omega),oB,hd,show i+1+wordN (s.drop (i+1))-i=1+wordN (s.drop (i+1)) by omega];obtain⟨v,h1⟩:=tnum_eq (s:=(c::s.drop (i+1)).take (1+wordN (s.drop (i+1)))) (by simp; omega)
     rw [h1,oB,oB];by_cases h0:numE ((c::s.drop (i+1)).take (1+wordN (s.drop (i+1))))=0
     ·left
      refine⟨3,_,_,by rw [if_pos h0], ?_⟩;rw [h0,Nat.add_assoc]
     ·right
      exact⟨by rw [if_neg h0],_,_,_,rfl,h0⟩
    ·rw [if_neg hN,show (decide (((c.toNat:Nat):Int)=45)||isD c)=false by rw [Bool.eq_false_iff]; intro h; simp only [Bool.or_eq_true,decide_eq_true_eq] at h; exact hN h.symm];have hD:isD c=false:=by cases h:isD c; rfl; exact absurd (.inl h) hN
     rw [cond_false,hD,Bool.or_self,oB,cond_false];by_cases h34:((c.toNat:Nat):Int)=34
     ·rw [if_pos h34,dT h34,cond_true,literal_eq hs hi,oB];unfold litR;cases hl:litN false (s.drop (i+1)) with
      | none=>exact .inr ⟨rfl,⟨0,[],0⟩,0,3,rfl,by decide⟩
      | some k =>
       have hk:=litN_le _ _ _ hl;simp only [List.length_drop] at hk;simp only;rw [dF (show ¬(((i+1+k:Nat):Int)<0) by omega),cond_false,cut_part (by omega) (by omega),oB,hd,show i+1+k-i=1+k by omega];obtain⟨r,e,u1,-,-,u2⟩:=unqF_eq (s:=(c::s.drop (i+1)).take (1+k)) (by simp; omega);rw [u1,u2,oB];by_cases he:e=0
       ·subst he
        left
        refine⟨4,r,1+k,by rw [if_pos rfl], ?_⟩;rw [Nat.add_assoc]
       ·right
        exact⟨by rw [if_neg he],_,_,_,rfl,he⟩
     ·rw [if_neg h34,dF h34,cond_false];exact .inr ⟨rfl,⟨0,[],0⟩,0,3,rfl,by decide⟩
   ·obtain⟨h45,hD⟩:=hlet hL;have hw:=wordN_le (s.drop i);simp only [List.length_drop] at hw;rw [dF h45,hD,Bool.or_self,cond_false,Bool.or_false,oB,cond_true,span_eq hs (by omega),oB,subC_ok (by omega),oB,if_pos rfl,hd] at *;by_cases h64:64<wordN (c::s.drop (i+1))
    ·rw [if_pos h64,dT (show (64:Int)<((i+wordN (c::s.drop (i+1)):Nat):Int)-(i:Int) by omega)];exact .inr ⟨rfl,⟨0,[],0⟩,0,3,rfl,by decide⟩
    ·rw [if_neg h64,dF (show ¬(64:Int)<((i+wordN (c::s.drop (i+1)):Nat):Int)-(i:Int) by omega),cond_false,cut_part (by omega) (by omega),oB,hd,show i+wordN (c::s.drop (i+1))-i=wordN (c::s.drop (i+1)) by omega];exact .inl ⟨_,_,_,rfl,by rw [drop_cons hc]⟩
 ·rw [cond_true,if_pos rfl,one,oB,cut_part (by omega) (by omega),oB,hd,show i+1-i=1 by omega];exact .inl ⟨_,_,_,rfl,rfl⟩
end Go.Proofs

namespace Go.Proofs
open Go Go.Ab
theorem litN_le' {r:Bs}{k:Nat}(h:litN false r=some k):k<=r.length:=(litN_le _ _ _ h).2
theorem tokF_ok {r:Bs}(hr:r.length<=1048576){k:Int}{t:Bs}{w:Nat}(h:tokF r=some (k,t,w)):1<=w/\w<=r.length/\1<=k/\k<=4/\(k≠4->t=r.take w)/\(k=4->r.head?=some 34)/\t.length<=w:=by
 cases r with
 | nil=>cases h
 | cons c q =>
  rw [tokF] at h;simp only [List.length_cons] at hr ⊢
  split at h
  ·cases h; exact⟨by omega,by omega,by omega,by omega,fun _=>rfl,fun h=>absurd h (by decide),by simp⟩
  split at h
  ·split at h
   ·rename_i h3
    cases h;have:=congrArg List.length h3;simp only [List.length_take,List.length_cons,List.length_nil] at this;exact⟨by omega,by omega,by omega,by omega,fun _=>h3.symm,fun h=>absurd h (by decide),by simp⟩
   ·cases h
  split at h
  ·rename_i hL
   split at h
   ·cases h
   ·cases h;have h1:=wordN_le (c::q);simp only [List.length_cons] at h1;have h2:1<=wordN (c::q):=by rw [wordN_cons,isW_eq,hL]; simp only [Bool.true_or,cond_true]; omega
    exact⟨h2,h1,by omega,by omega,fun _=>rfl,fun h=>absurd h (by decide),by simp; omega⟩
  split at h
  ·split at h
   ·cases h;have h1:=wordN_le q;exact⟨by omega,by omega,by omega,by omega,fun _=>rfl,fun h=>absurd h (by decide),by simp; omega⟩
   ·cases h
  split at h
  ·rename_i h34
   split at h
   ·cases h
   ·rename_i m hm
    have hk:=litN_le' hm
    split at h
    ·cases h
    ·rename_i x hx
     cases h;obtain⟨r,e,-,-,h3,h4⟩:=unqF_eq (s:=(c::q).take (1+m)) (by simp; omega);rw [hx] at h4
     split at h4
     ·cases h4;refine⟨by omega,by omega,by omega,by omega,fun h=>absurd rfl h,fun _=>?_, ?_⟩
      ·have:c=34:=by rw [<- UInt8.toNat_inj]; show c.toNat=34; omega
       rw [this]; rfl
      ·simp only [List.length_take,List.length_cons] at h3; omega
     ·cases h4
  ·cases h
def scT:Nat->Bs->Option (List (Int×Bs×Nat))
 | 0,_=>none
 | n+1,r=>if r=[] then some [(5,[],0)] else match tokF r with
  | none=>none
  | some (k,t,w)=>(scT n ((r.drop w).drop (skN false (r.drop w)))).map ((k,t,r.length)::·)
def scF (s:Bs):Option (List (Int×Bs×Nat)):=scT F0 (s.drop (skN false s))
def tkO (n:Nat) (x:Int×Bs×Nat):Z8:=⟨x.1,x.2.1,((n-x.2.2:Nat):Int)⟩
theorem scan_spec_loop (s:Bs) (hs:s.length<=1048575):∀(n i:Nat) (A:Sl Z8),A.l.length<=i->i<=s.length->s.length-i<n ->
  (∃L,scT n (s.drop i)=some L/\Z104_l15 s n A (i:Int)=some (⟨false,A.l++L.map (tkO s.length)⟩,0,0)/\L.length<=s.length-i+1)\/(scT n (s.drop i)=none/\∃p e,Z104_l15 s n A (i:Int)=some (Sl.nil,p,e)/\e≠0)
 | 0,_,_,_,_,h=>by omega
 | n+1,i,A,hA,hi,hn=>by
  rw [Z104_l15,scT];by_cases hlt:i<s.length
  ·have hne:s.drop i≠[]:=by
    intro h;have:=congrArg List.length h;simp only [List.length_drop,List.length_nil] at this; omega
   rw [show decide ((i:Int)<((s.length:Nat):Int))=true from dT (by omega),cond_true,if_neg hne];rcases read_spec (s:=s) (by omega) hlt with ⟨k,t,w,h1,h2⟩|⟨h1,t,j,e,h2,h3⟩
   ·obtain⟨o1,o2,-⟩:=tokF_ok (by simp; omega) h1;simp only [List.length_drop] at o2;rw [h1,h2,oB];have hk:=skN_le false (s.drop (i+w));simp only [List.length_drop] at hk;rw [show (!decide (((0:Int))=0))=false from rfl,cond_false,app_one (by omega),oB,skip_eq (by omega) (by omega),oB];have hdd:(s.drop i).drop w=s.drop (i+w):=List.drop_drop;simp only [hdd];rw [show (s.drop (i+w)).drop (skN false (s.drop (i+w)))=s.drop (i+w+skN false (s.drop (i+w))) from List.drop_drop]
    rcases scan_spec_loop s hs n (i+w+skN false (s.drop (i+w))) ⟨false,A.l++[⟨k,t,(i:Int)⟩]⟩ (by simp; omega) (by omega) (by omega) with ⟨L,g1,g2,g3⟩|⟨g1,p,e,g2,g3⟩
    ·left
     refine⟨(k,t,(s.drop i).length)::L,by rw [g1]; rfl, ?_,by simp only [List.length_cons]; omega⟩;rw [g2];have:tkO s.length (k,t,(s.drop i).length)=⟨k,t,(i:Int)⟩:=by
      unfold tkO;simp only [List.length_drop];rw [show s.length-(s.length-i)=i by omega]
     rw [List.map_cons,this];simp
    ·right
     exact⟨by rw [g1]; rfl,p,e,g2,g3⟩
   ·rw [h1,h2,oB,show (!decide (e=0))=true by simpa using h3,cond_true];exact .inr ⟨rfl,_,_,rfl,h3⟩
  ·rw [show decide ((i:Int)<((s.length:Nat):Int))=false from dF (by omega),cond_false,if_pos (List.drop_eq_nil_of_le (by omega))];unfold Z104_j8;rw [app_one (by omega)];exact .inl ⟨_,rfl,rfl,by simp⟩
theorem scan_spec {s:Bs}(hs:s.length<=65536):(∃L,scF s=some L/\Z104 s=some (⟨false,L.map (tkO s.length)⟩,0,0)/\L.length<=s.length+1)\/(scF s=none/\∃p e,Z104 s=some (Sl.nil,p,e)/\e≠0):=by
 unfold Z104 scF;rw [show decide ((65536:Int)<((s.length:Nat):Int))=false from dF (by omega),cond_false];have k1:=skip_eq (s:=s) (i:=0) (by omega) (by omega);have hk:=skN_le false s;rw [show (((0:Nat):Int))=0 from rfl,List.drop_zero,Nat.zero_add] at k1;rw [k1,oB];rcases scan_spec_loop s (by omega) F0 (skN false s) ⟨true,[]⟩ (by simp) (by omega) (by rw [F0_eq]; omega) with ⟨L,h1,h2,h3⟩|h
 ·exact .inl ⟨L,h1,by rw [show (Sl.nil:Sl Z8)=⟨true,[]⟩ from rfl,h2]; rfl,by omega⟩
 ·exact .inr h
def PlL (s:Bs):List (Int×Bs×Nat)->Prop
 | []=>False
 | (k,t,m)::L=>match L with
  | []=>k=5/\m=0
  | (_,_,m')::_=>k≠5/\m'<m/\m<=s.length/\(k=4->(s.drop (s.length-m)).head?=some 34)/\(k≠4->t.length<=m/\t=(s.drop (s.length-m)).take t.length)/\PlL s L
theorem suffix_drop {s:Bs}{m i:Nat}(h:i<=s.length) (hm:(s.drop i).length=m):s.drop (s.length-m)=s.drop i:=by
 simp only [List.length_drop] at hm;rw [show s.length-m=i by omega]
theorem scT_head {n:Nat}{r:Bs}{L:List (Int×Bs×Nat)}(h:scT n r=some L):∃k t L',L=(k,t,r.length)::L':=by
 cases n with
 | zero=>cases h
 | succ n =>
  rw [scT] at h
  split at h
  ·rename_i hr; subst hr; cases h; exact⟨_,_,_,rfl⟩
  ·split at h
   ·cases h
   ·obtain⟨L',-,rfl⟩:=Option.map_eq_some_iff.1 h;exact⟨_,_,_,rfl⟩
theorem scT_pl (s:Bs) (hs:s.length<=1048576):∀(n i:Nat) (L:List (Int×Bs×Nat)),i<=s.length->scT n (s.drop i)=some L->PlL s L
 | 0,_,_,_,h=>by cases h
 | n+1,i,L,hi,h=>by
  rw [scT] at h
  split at h
  ·cases h; exact⟨rfl,rfl⟩
  ·split at h
   ·cases h
   ·rename_i k t w ht
    obtain⟨L',h1,rfl⟩:=Option.map_eq_some_iff.1 h;obtain⟨o1,o2,o3,o4,o5,o6,o7⟩:=tokF_ok (by simp; omega) ht;have hk:=skN_le false ((s.drop i).drop w);simp only [List.length_drop] at hk o2;have hdd:((s.drop i).drop w).drop (skN false ((s.drop i).drop w))=s.drop (i+w+skN false ((s.drop i).drop w)):=by rw [List.drop_drop,List.drop_drop,Nat.add_assoc]
    rw [hdd] at h1;have ih:=scT_pl s hs n _ L' (by omega) h1;obtain⟨k',t',L'',rfl⟩:=scT_head h1;have hsd:=suffix_drop hi rfl;refine⟨by omega, ?_,by simp, ?_, ?_,ih⟩
    ·simp only [List.length_drop]; omega
    ·intro h4; rw [hsd]; exact o6 h4
    ·intro h4;rw [hsd];have:=o5 h4;refine⟨by simp only [List.length_drop]; omega, ?_⟩;have hl:t.length=w:=by rw [this]; simp; omega
     rw [hl]; exact this
end Go.Proofs

namespace Go.Proofs
open Go Go.Ab
def ktT (t:Z8):Int×Bs:=(t.FKind,t.FText)
def kt4 (x:Z2):Int×Bs:=(x.FKind,x.FText)
theorem head_kt {l:List Z8}{k:Int}{t:Bs}{r:List (Int×Bs)}(h:l.map ktT=(k,t)::r):∃x l',l=x::l'/\x.FKind=k/\x.FText=t/\l'.map ktT=r:=by
 obtain⟨x,l',rfl,h1,h2⟩:=List.map_eq_cons_iff.1 h;exact⟨x,l',rfl,congrArg Prod.fst h1,congrArg Prod.snd h1,h2⟩
theorem part_tail {α:Type}{s:Sl α}(h:1<=s.l.length):partC s (some (1:Int)) none=some ⟨s.nl,s.l.drop 1⟩:=by
 unfold partC;rw [if_pos (by simp; omega)];simp
def E5:List (Int×Bs)->Prop
 | []=>False
 | (k,_)::r=>(k=5/\r=[])\/(k≠5/\E5 r)
theorem E5.tail {k:Int}{t:Bs}{r:List (Int×Bs)}(h:E5 ((k,t)::r)) (hk:k≠5):E5 r:=by
 rcases h with ⟨h,-⟩|⟨-,h⟩
 ·exact absurd h hk
 ·exact h
theorem E5.cons {r:List (Int×Bs)}(h:E5 r):∃k t r',r=(k,t)::r':=by
 cases r with
 | nil=>cases h
 | cons x r'=>exact⟨x.1,x.2,r',rfl⟩
theorem E5.of_pl {s:Bs}:∀L:List (Int×Bs×Nat),PlL s L->E5 (L.map fun x=>(x.1,x.2.1))
 | [],h=>by cases h
 | [(k,t,m)],h=>.inl ⟨h.1,rfl⟩
 | (k,t,m)::(k',t',m')::L,h=>.inr ⟨h.1,E5.of_pl ((k',t',m')::L) h.2.2.2.2.2⟩
def opK (V:List Int) (R:List (Int×Bs)):List Int×List (Int×Bs):=match R with
 | []=>(V,[])
 | (k,t)::r=>if k=1/\t=[33] then(V++[1],r) else(V,(k,t)::r)
def isCl (R:List (Int×Bs)):Bool:=match R with
 | []=>false
 | (k,t)::_=>decide (k=1)&&(t==[93])
theorem isCl_cons (k:Int) (t:Bs) (r:List (Int×Bs)):isCl ((k,t)::r)=(decide (k=1)&&(t==[93])):=rfl
def clK:Nat->List (Int×Bs)->Option (List Int×List (Int×Bs))
 | 0,R=>some (opK [] R)
 | m+1,R=>match clK m R with
  | none=>none
  | some (V,R')=>if isCl R'=true then some (opK (V++[2]) (R'.drop 1)) else none
theorem opK_e5 {V:List Int}{R:List (Int×Bs)}(h:E5 R):E5 (opK V R).2/\(opK V R).2.length<=R.length/\(opK V R).1.length+(opK V R).2.length<=V.length+R.length:=by
 obtain⟨k,t,r,rfl⟩:=h.cons;unfold opK;simp only
 split
 ·rename_i h1
  exact⟨h.tail (by omega),by simp,by simp; omega⟩
 ·exact⟨h,by simp,by simp⟩
theorem isCl_ok {R:List (Int×Bs)}(h:isCl R=true):∃r,R=(1,[93])::r:=by
 cases R with
 | nil=>cases h
 | cons x r =>
  obtain⟨k,t⟩:=x;rw [isCl_cons] at h;simp only [Bool.and_eq_true,decide_eq_true_eq,beq_iff_eq] at h;exact⟨r,by rw [h.1,h.2]⟩
theorem clK_e5 {R:List (Int×Bs)}(h:E5 R):∀(m:Nat) (V:List Int) (R':List (Int×Bs)),clK m R=some (V,R')->E5 R'/\V.length+R'.length<=R.length
 | 0,V,R',e=>by
  rw [clK] at e;have:=opK_e5 (V:=[]) h;rw [oJ e] at this;exact⟨this.1,by simpa using this.2.2⟩
 | m+1,V,R',e=>by
  rw [clK] at e
  split at e
  ·cases e
  ·rename_i V0 R0 h0
   obtain⟨g1,g2⟩:=clK_e5 h m V0 R0 h0
   split at e
   ·rename_i hc
    obtain⟨r,rfl⟩:=isCl_ok hc;have h5:=g1.tail (by decide);have:=opK_e5 (V:=V0++[2]) h5;rw [List.drop_succ_cons,List.drop_zero] at e;rw [oJ e] at this;refine⟨this.1, ?_⟩;have h3:=this.2.2;simp only [List.length_append,List.length_cons,List.length_nil] at h3 g2;omega
   ·cases e
def finP (N:Bs) (o:Option (List Int×List (Int×Bs))):Bs×List Int×Int:=match o with
 | none=>([],[],3)
 | some (V,R)=>if R.length=1 then(if 24<V.length then([],[],5) else(N,V.reverse,0)) else([],[],3)
def IsP (o:Option (TRef×Int)) (p:Bs×List Int×Int):Prop:=∃t,o=some (t,p.2.2)/\t.FName=p.1/\t.FWraps.l=p.2.1
theorem IsP.mkP (t:TRef) (e:Int){p:Bs×List Int×Int}(h1:t.FName=p.1) (h2:t.FWraps.l=p.2.1) (h3:e=p.2.2):IsP (some (t,e)) p:=⟨t,by rw [h3],h1,h2⟩
theorem e5_one {k:Int}{t:Bs}{r:List (Int×Bs)}(h:E5 ((k,t)::r)):(k=5↔((k,t)::r).length=1):=by
 rcases h with ⟨h1,rfl⟩|⟨h1,h2⟩
 ·exact⟨fun _=>rfl,fun _=>h1⟩
 ·refine⟨fun h=>absurd h h1,fun h=>?_⟩;obtain⟨a,b,c,rfl⟩:=h2.cons;simp at h
theorem j22_is {S:Sl Z8}{R:List (Int×Bs)}(h:S.l.map ktT=R) (h5:E5 R) (y z:TRef):IsP (Z115_j22 S y z) (finP z.FName (some (z.FWraps.l,R))):=by
 obtain⟨k,t,r,rfl⟩:=h5.cons;obtain⟨x,l',hl,h1,h2,h3⟩:=head_kt h;unfold Z115_j22 finP;rw [hl,List.getElem?_cons_zero,oB,h1];by_cases hk:k=5
 ·rw [dT hk,Bool.not_true,cond_false];simp only;rw [if_pos ((e5_one h5).1 hk)];by_cases h24:24<z.FWraps.l.length
  ·rw [dT (show (24:Int)<((z.FWraps.l.length:Nat):Int) by omega),cond_true,if_pos h24];exact .mkP _ _ rfl rfl rfl
  ·rw [dF (show ¬(24:Int)<((z.FWraps.l.length:Nat):Int) by omega),cond_false,if_neg h24,oB];exact .mkP _ _ rfl rfl rfl
 ·rw [dF hk,Bool.not_false,cond_true];simp only;rw [if_neg (fun h=>hk ((e5_one h5).2 h))];exact .mkP _ _ rfl rfl rfl
theorem l39_step (n:Nat) (S:Sl Z8) (d:Int) (y:TRef) (N:Bs) (A:Sl Int) (hA:A.l.length<=1048576){R:List (Int×Bs)}(h:S.l.map ktT=R) (h5:E5 R) :
  ∃S' A',Z115_l39 (n+1) S d y ⟨N,A⟩=Z115_j44 d y (Z115_l39 n) S' ⟨N,A'⟩/\A'.l=(opK A.l R).1/\S'.l.map ktT=(opK A.l R).2:=by
 obtain⟨k,t,r,rfl⟩:=h5.cons;obtain⟨x,l',hl,h1,h2,h3⟩:=head_kt h;rw [Z115_l39,hl,List.getElem?_cons_zero,oB,h1];unfold opK;simp only;by_cases hk:k=1
 ·rw [dT hk];simp only [guardO,if_true,oB,Bool.true_and,h2];by_cases ht:t=[33]
  ·rw [show (t==[33])=true by simp [ht],cond_true,appC_ok (by decide) (by simp only [List.length_cons,List.length_nil]; omega),oB,part_tail (by rw [hl]; simp),oB,if_pos ⟨hk,ht⟩];exact⟨_,_,rfl,rfl,by rw [hl]; exact h3⟩
  ·rw [show (t==[33])=false by simpa using ht,cond_false,if_neg (fun h=>ht h.2)];exact⟨_,_,rfl,rfl,h⟩
 ·rw [dF hk];simp only [guardO,Bool.false_and,cond_false];rw [if_neg (by decide),if_neg (fun h=>hk h.1)];exact⟨_,_,rfl,rfl,h⟩
theorem jump {R0:List (Int×Bs)}(h0:E5 R0) (hl0:R0.length<=100000) (y:TRef) (N:Bs):∀(d n k:Nat) (S:Sl Z8) (A:Sl Int) (V:List Int) (R:List (Int×Bs)),d<n->d<=100000->clK k R0=some (V,R)->A.l=V->S.l.map ktT=R->IsP (Z115_j44 (d:Int) y (Z115_l39 n) S ⟨N,A⟩) (finP N (clK (k+d) R0))
 | d,0,_,_,_,_,_,h,_,_,_,_=>by omega
 | 0,n+1,k,S,A,V,R,_,_,hc,hA,hS=>by
  obtain⟨e1,e2⟩:=clK_e5 h0 k V R hc;unfold Z115_j44;rw [show decide (((0:Nat):Int)=0)=true from rfl,cond_true,Nat.add_zero,hc];have:=j22_is hS e1 y ⟨N,A⟩;rw [hA] at this;exact this
 | d+1,n+1,k,S,A,V,R,hn,hd,hc,hA,hS=>by
  obtain⟨e1,e2⟩:=clK_e5 h0 k V R hc;have hnone:isCl R=false->clK (k+(d+1)) R0=none:=by
   intro hi;have h1:clK (k+1) R0=none:=by rw [clK,hc]; simp [hi]
   have:∀j,clK (k+1+j) R0=none:=by
    intro j;induction j with
    | zero=>exact h1
    | succ j ih=>rw [<- Nat.add_assoc,clK,ih]
   rw [show k+(d+1)=k+1+d by omega]; exact this d
  obtain⟨kk,t,r,rfl⟩:=e1.cons;obtain⟨x,l',hl,h1,h2,h3⟩:=head_kt hS;unfold Z115_j44;rw [show decide (((d+1:Nat):Int)=0)=false from dF (by omega),cond_false,hl,List.getElem?_cons_zero,oB,h1];by_cases hk:kk=1
  ·rw [dT hk];simp only [guardO,Bool.not_true,Bool.not_false,if_true,oB,Bool.false_or,h2];by_cases ht:t=[93]
   ·have hcl:isCl ((kk,t)::r)=true:=by rw [isCl_cons,hk,ht]; rfl
    rw [show (!(t==[93]))=false by simp [ht],cond_false];simp only [List.length_cons] at e2;rw [appC_ok (by decide) (by rw [hA]; simp only [List.length_cons,List.length_nil]; omega),oB,part_tail (by rw [hl]; simp),oB,subC_ok (by omega),oB,show ((d+1:Nat):Int)-1=(d:Int) by omega];have h5:E5 r:=e1.tail (by omega);obtain⟨S',A',j1,j2,j3⟩:=l39_step n ⟨S.nl,S.l.drop 1⟩ (d:Int) y N ⟨A.nl&&([2]:List Int).isEmpty,A.l++[2]⟩ (by rw [hA]; simp; omega) (R:=r) (by rw [hl]; exact h3) h5
    rw [j1];have hc1:clK (k+1) R0=some (opK (A.l++[2]) r):=by
     rw [clK,hc]; simp only; rw [if_pos hcl,hA]; rfl
    have:=jump h0 hl0 y N d n (k+1) S' A' _ _ (by omega) (by omega) hc1 j2 j3;rw [show k+(d+1)=k+1+d by omega];exact this
   ·rw [show (!(t==[93]))=true by simpa using ht,cond_true,hnone (by rw [isCl_cons,show (t==[93])=false by simpa using ht,Bool.and_false])];exact .mkP _ _ rfl rfl rfl
  ·rw [dF hk];simp only [Bool.not_false,Bool.true_or,cond_true,guardO,Bool.not_true];rw [if_neg (by decide),hnone (by rw [isCl_cons,dF hk,Bool.false_and])];exact .mkP _ _ rfl rfl rfl
def isOp (R:List (Int×Bs)):Bool:=match R with
 | []=>false
 | (k,t)::_=>decide (k=1)&&(t==[91])
theorem isOp_cons (k:Int) (t:Bs) (r:List (Int×Bs)):isOp ((k,t)::r)=(decide (k=1)&&(t==[91])):=rfl
theorem open_run (X:List (Int×Bs)) (hX:E5 X) (ho:isOp X=false):∀(m n:Nat) (S:Sl Z8) (d:Nat),S.l.map ktT=List.replicate m ((1:Int),([91]:Bs))++X->m<n->d+m<=1000000->∃S',S'.l.map ktT=X/\Z115_l65 n S (d:Int)=Z115_j11 S' ((d+m:Nat):Int)
 | _,0,_,_,_,h,_=>by omega
 | 0,n+1,S,d,h,_,_=>by
  refine⟨S,h, ?_⟩;obtain⟨k,t,r,rfl⟩:=hX.cons;obtain⟨x,l',hl,h1,h2,h3⟩:=head_kt (show S.l.map ktT=(k,t)::r from h);rw [isOp_cons] at ho;rw [Z115_l65,hl,List.getElem?_cons_zero,oB,h1];by_cases hk:k=1
  ·rw [hk] at ho ⊢;rw [show decide ((1:Int)=1)=true from rfl] at ho ⊢;simp only [guardO,if_true,oB,Bool.true_and,h2] at ho ⊢;rw [ho]; rfl
  ·rw [dF hk]; rfl
 | m+1,n+1,S,d,h,hn,hd=>by
  rw [List.replicate_succ,List.cons_append] at h;obtain⟨x,l',hl,h1,h2,h3⟩:=head_kt h;rw [Z115_l65,hl,List.getElem?_cons_zero,oB,h1];rw [show decide ((1:Int)=1)=true from rfl];simp only [guardO,if_true,oB,Bool.true_and,h2];rw [show (([91]:Bs)==[91])=true from rfl,cond_true,show (1:Int)=((1:Nat):Int) from rfl,add_nat (by omega) (by omega),oB,show (((1:Nat):Int))=1 from rfl,part_tail (by rw [hl]; simp),oB]
  obtain⟨S',g1,g2⟩:=open_run X hX ho m n ⟨S.nl,S.l.drop 1⟩ (d+1) (by rw [hl]; exact h3) (by omega) (by omega);exact⟨S',g1,by rw [g2]; exact congrArg _ (by omega)⟩
theorem opens (K:List (Int×Bs)):∃m X,K=List.replicate m ((1:Int),([91]:Bs))++X/\isOp X=false:=by
 induction K with
 | nil=>exact⟨0,[],rfl,rfl⟩
 | cons x K ih =>
  obtain⟨k,t⟩:=x;cases h:isOp ((k,t)::K)
  ·exact⟨0,_,rfl,h⟩
  ·rw [isOp_cons] at h;simp only [Bool.and_eq_true,decide_eq_true_eq,beq_iff_eq] at h;obtain⟨m,X,rfl,h2⟩:=ih;exact⟨m+1,X,by rw [h.1,h.2,List.replicate_succ]; rfl,h2⟩
def outP (m:Nat) (X:List (Int×Bs)):Bs×List Int×Int:=match X with
 | []=>([],[],3)
 | (k,t)::R=>if k=2 then finP t (clK m R) else([],[],3)
theorem e5_app {m:Nat}{X:List (Int×Bs)}(h:E5 (List.replicate m ((1:Int),([91]:Bs))++X)):E5 X:=by
 induction m with
 | zero=>exact h
 | succ m ih=>rw [List.replicate_succ,List.cons_append] at h; exact ih (h.tail (by decide))
theorem tparse_is {S:Sl Z8}{m:Nat}{X:List (Int×Bs)}(h:S.l.map ktT=List.replicate m ((1:Int),([91]:Bs))++X) (h5:E5 (S.l.map ktT)) (ho:isOp X=false) (hl:S.l.length<=70000):IsP (Z115_l65 F0 S 0) (outP m X):=by
 rw [h] at h5;have hX:=e5_app h5;have hlen:m+X.length<=70000:=by
  have:=congrArg List.length h;simp only [List.length_map,List.length_append,List.length_replicate] at this;omega
 obtain⟨S',g1,g2⟩:=open_run X hX ho m F0 S 0 h (by rw [F0_eq]; omega) (by omega);rw [show (0:Int)=((0:Nat):Int) from rfl,g2,Nat.zero_add];obtain⟨k,t,R,rfl⟩:=hX.cons;obtain⟨x,l',hlx,h1,h2,h3⟩:=head_kt g1;unfold Z115_j11 outP;rw [hlx,List.getElem?_cons_zero,oB,h1];simp only;by_cases hk:k=2
 ·rw [dT hk,Bool.not_true,cond_false,if_pos hk,oB,part_tail (by rw [hlx]; simp),oB,h2];have hR:E5 R:=hX.tail (by omega);simp only [List.length_cons] at hlen;obtain⟨n,hn⟩:∃n,F0=n+1:=⟨4611686018427387903,by rw [F0_eq]⟩;obtain⟨S2,A2,j1,j2,j3⟩:=l39_step n ⟨S'.nl,S'.l.drop 1⟩ ((m:Nat):Int) TRef.zero t TRef.zero.FWraps (by simp [TRef.zero,Sl.nil]) (R:=R) (by rw [hlx]; exact h3) hR
  rw [hn,j1];have hc:clK 0 R=some ((opK TRef.zero.FWraps.l R).1,(opK TRef.zero.FWraps.l R).2):=rfl;have:=jump hR (by omega) TRef.zero t m n 0 S2 A2 _ _ (by rw [F0_eq] at hn; omega) (by omega) hc j2 j3;rw [Nat.zero_add] at this;exact this
 ·rw [dF hk,Bool.not_false,cond_true,if_neg hk];exact .mkP _ _ rfl rfl rfl
theorem get4 {T:Sl Z2}{i:Nat}{k:Int}{t:Bs}{r:List (Int×Bs)}(h:(T.l.drop i).map kt4=(k,t)::r):∃x,T.l[i]?=some x/\x.FKind=k/\x.FText=t/\(T.l.drop (i+1)).map kt4=r/\i<T.l.length:=by
 obtain⟨x,l',h1,h2,h3⟩:=List.map_eq_cons_iff.1 h;have hi:T.l[i]?=some x:=by
  have:=congrArg List.head? h1;rw [List.head?_drop] at this; exact this
 refine⟨x,hi,congrArg Prod.fst h2,congrArg Prod.snd h2, ?_,(List.getElem?_eq_some_iff.1 hi).1⟩;have:=congrArg List.tail h1;rw [List.tail_drop] at this;rw [this]; exact h3
theorem sign_eq {T:Sl Z2}{i:Nat}{k:Int}{t:Bs}{r:List (Int×Bs)}(h:(T.l.drop i).map kt4=(k,t)::r) (s:Bs):Z64 T (i:Int) s=some (decide (k=1)&&(t==s)):=by
 obtain⟨x,h1,h2,h3,-,h5⟩:=get4 h;unfold Z64;rw [show decide ((i:Int)<((T.l.length:Nat):Int))=true from dT (by omega),idxC_nat,h1];simp only [guardO,if_true,oB,Bool.true_and,h2];cases decide (k=1)
 ·rfl
 ·simp only [if_true,oB,Bool.true_and,h3]
theorem wrap_eq (w:Int){t:TRef}(h:t.FWraps.l.length<=1048576):Z65 w t=some ⟨t.FName,⟨false,w::t.FWraps.l⟩⟩:=by
 unfold Z65;rw [appC_ok (by decide) (by simp only [List.length_cons,List.length_nil]; omega),oB];rfl
theorem nonnull_eq {t:TRef}(h:t.FWraps.l.length<=1048576) (h1:t.FWraps.l.head?≠some 1):Z56 t=some ⟨t.FName,⟨false,1::t.FWraps.l⟩⟩:=by
 unfold Z56;have:Z54 t=some false:=by
  unfold Z54;cases hw:t.FWraps.l with
  | nil=>rfl
  | cons a r =>
   rw [hw] at h1;rw [show decide ((0:Int)<(((a::r:List Int).length:Nat):Int))=true from dT (by simp only [List.length_cons]; omega)];have:¬a=1:=fun h=>h1 (by rw [h]; rfl);simp [guardO,this]
 rw [this,oB,cond_false,wrap_eq 1 h,oB]
def IsT (T:Sl Z2) (o:Option (TRef×Int×Bool)) (N:Bs) (p:Option (List Int×List (Int×Bs))):Prop:=match p with
 | none=>∃t j,o=some (t,j,false)
 | some (V,R)=>∃(t:TRef) (j:Nat),o=some (t,(j:Int),true)/\t.FName=N/\t.FWraps.l=V.reverse/\j<=T.l.length/\(T.l.drop j).map kt4=R
theorem j3_is {T:Sl Z2}(hT:T.l.length<=100000){i:Nat}(hi:i<=T.l.length){R:List (Int×Bs)}(h:(T.l.drop i).map kt4=R) (h5:E5 R) (y t:TRef) (V:List Int) (ht:t.FWraps.l=V.reverse) (h1:t.FWraps.l.head?≠some 1) (hV:V.length<=1000000):IsT T (Z60_j3 T (i:Int) y t) t.FName (some (opK V R)):=by
 obtain⟨k,s,r,rfl⟩:=h5.cons;obtain⟨x,g1,g2,g3,g4,g5⟩:=get4 h;unfold Z60_j3 opK;rw [sign_eq h,oB];simp only;by_cases hc:k=1/\s=[33]
 ·rw [if_pos hc,dT hc.1,show (s==[33])=true by simp [hc.2],Bool.and_self,cond_true,nonnull_eq (by rw [ht,List.length_reverse]; omega) h1,oB];rw [show (1:Int)=((1:Nat):Int) from rfl,add_nat (by omega) (by omega),oB];exact⟨_,i+1,rfl,rfl,by rw [ht]; simp,by omega,g4⟩
 ·rw [if_neg hc,show (decide (k=1)&&(s==[33]))=false by
   rw [Bool.and_eq_false_iff];by_cases hk:k=1
   ·right; simpa using fun h=>hc ⟨hk,h⟩
   ·exact .inl (dF hk),cond_false]
  exact⟨t,i,rfl,rfl,ht,hi,h⟩
def clX (m:Nat) (X:List (Int×Bs)):Option (List Int×List (Int×Bs)):=match X with
 | []=>none
 | (k,_)::R=>if k=2 then clK m R else none
def nmX (X:List (Int×Bs)):Bs:=match X with
 | []=>[]
 | (_,t)::_=>t
theorem tokens_is {T:Sl Z2}(hT:T.l.length<=100000){X:List (Int×Bs)}(hX:E5 X) (hl:X.length<=100000) (ho:isOp X=false):∀(m n i:Nat),m<n->i<=T.l.length->(T.l.drop i).map kt4=List.replicate m ((1:Int),([91]:Bs))++X->IsT T (Z60_n n T (i:Int)) (nmX X) (clX m X)
 | _,0,_,h,_,_=>by omega
 | 0,n+1,i,_,hi,h=>by
  obtain⟨k,t,R,rfl⟩:=hX.cons;have h':(T.l.drop i).map kt4=(k,t)::R:=h;obtain⟨x,g1,g2,g3,g4,g5⟩:=get4 h';have one:addC (i:Int) 1=some (((i+1:Nat)):Int):=add_nat (k:=1) (by omega) (by omega);rw [Z60_n,sign_eq h',oB,show (decide (k=1)&&(t==[91]))=false from ho,cond_false,one];rw [show decide (((T.l.length:Nat):Int)<=(i:Int))=false from dF (by omega),idxC_nat,g1];change IsT T (bif (!decide (x.FKind=(2:Int))) then(some ((TRef.mk ([]:Bs) (Sl.nil:Sl Int)),(0:Int),false)) else Z60_j3 T ((i+1:Nat):Int) TRef.zero (TRef.mk x.FText (Sl.nil:Sl Int))) _ _
  rw [g2];unfold clX nmX;simp only;by_cases hk:k=2
  ·rw [dT hk,Bool.not_true,cond_false,if_pos hk,g3];have hR:E5 R:=hX.tail (by omega);exact j3_is hT (by omega) g4 hR TRef.zero ⟨t,Sl.nil⟩ [] rfl (by simp [Sl.nil]) (by simp)
  ·rw [dF hk,Bool.not_false,cond_true,if_neg hk];exact⟨_,_,rfl⟩
 | m+1,n+1,i,hn,hi,h=>by
  have h':(T.l.drop i).map kt4=(1,[91])::(List.replicate m ((1:Int),([91]:Bs))++X):=h;obtain⟨x,g1,g2,g3,g4,g5⟩:=get4 h';have one:addC (i:Int) 1=some (((i+1:Nat)):Int):=add_nat (k:=1) (by omega) (by omega);rw [Z60_n,sign_eq h',oB,show (decide ((1:Int)=1)&&(([91]:Bs)==[91]))=true from rfl,cond_true,one,oB];have ih:=tokens_is hT hX hl ho m n (i+1) (by omega) (by omega) g4;have hcs:clX (m+1) X=match clX m X with
   | none=>none
   | some (V,R')=>if isCl R'=true then some (opK (V++[2]) (R'.drop 1)) else none:=by
   unfold clX;cases X with
   | nil=>rfl
   | cons a b =>
    obtain⟨k,t⟩:=a;simp only;by_cases hk:k=2
    ·rw [if_pos hk,if_pos hk,clK]
    ·rw [if_neg hk,if_neg hk]
  rw [hcs];cases hc:clX m X with
  | none =>
   rw [hc] at ih;obtain⟨t,j,e⟩:=ih;rw [e,oB];exact⟨_,_,rfl⟩
  | some p =>
   obtain⟨V,R'⟩:=p;rw [hc] at ih;obtain⟨t,j,e,n1,n2,n3,n4⟩:=ih;have hE:E5 R'/\V.length<=100000:=by
    unfold clX at hc;cases X with
    | nil=>cases hc
    | cons a b =>
     obtain⟨k,s⟩:=a;simp only at hc
     split at hc
     ·have:=clK_e5 (hX.tail (by omega)) m V R' hc;simp only [List.length_cons] at hl;exact⟨this.1,by omega⟩
     ·cases hc
   obtain⟨k,s,r,rfl⟩:=hE.1.cons;obtain⟨x2,q1,q2,q3,q4,q5⟩:=get4 n4;have one2:addC (j:Int) 1=some (((j+1:Nat)):Int):=add_nat (k:=1) (by omega) (by omega);have hL:Z55 t=some ⟨t.FName,⟨false,2::t.FWraps.l⟩⟩:=by
    unfold Z55; rw [wrap_eq 2 (by rw [n2,List.length_reverse]; omega),oB]
   rw [e,oB];change IsT T ((Z64 T (j:Int) [93]).bind fun x25=>bif (!x25) then some (TRef.mk ([]:Bs) (Sl.nil:Sl Int),(0:Int),false) else(Z55 t).bind fun x29=>(addC (j:Int) 1).bind fun x30=>Z60_j3 T x30 TRef.zero x29) (nmX X) (if (decide (k=1)&&(s==[93]))=true then some (opK (V++[2]) r) else none);rw [sign_eq n4,oB,one2,hL];cases hs:decide (k=1)&&(s==[93])
   ·exact⟨_,_,rfl⟩
   ·have h5:E5 r:=hE.1.tail (by simp only [Bool.and_eq_true,decide_eq_true_eq] at hs; omega);have:=j3_is hT (by omega) q4 h5 TRef.zero ⟨t.FName,⟨false,2::t.FWraps.l⟩⟩ (V++[2]) (by rw [n2]; simp) (by simp) (by simp; omega);rw [<- n1];exact this
theorem rparse_is {s:Bs}{T:Sl Z2}{p:Int}(hs:Z42 s=some (T,p,0)){m:Nat}{X:List (Int×Bs)}(h:T.l.map kt4=List.replicate m ((1:Int),([91]:Bs))++X) (h5:E5 (T.l.map kt4)) (ho:isOp X=false) (hl:T.l.length<=70000):IsP (Z58 s) (outP m X):=by
 rw [h] at h5;have hX:=e5_app h5;have hlen:m+X.length=T.l.length:=by
  have:=congrArg List.length h;simp only [List.length_map,List.length_append,List.length_replicate] at this;omega
 have:=tokens_is (T:=T) (by omega) hX (by omega) ho m F0 0 (by rw [F0_eq]; omega) (by omega) h;unfold Z58;rw [hs,oB];simp only [decide_true,Bool.not_true,cond_false];unfold Z60;have ho':outP m X=finP (nmX X) (clX m X):=by
  unfold outP nmX clX;cases X with
  | nil=>rfl
  | cons a b =>
   obtain⟨k,t⟩:=a;simp only
   split<;>rfl
 rw [ho'];rw [show ((0:Nat):Int)=0 from rfl] at this;cases hc:clX m X with
 | none =>
  rw [hc] at this;obtain⟨t,j,e⟩:=this;rw [e,oB];exact .mkP _ _ rfl rfl rfl
 | some q =>
  obtain⟨V,R⟩:=q;rw [hc] at this;obtain⟨t,j,e,n1,n2,n3,n4⟩:=this;have hj:T.l.length-j=R.length:=by rw [<- n4]; simp
  have h0:1<=T.l.length:=by
   obtain⟨a,b,c,hx⟩:=hX.cons;rw [<- hlen,hx]; simp only [List.length_cons]; omega
  rw [e,oB];simp only [guardO,Bool.not_true,Bool.not_false,if_true,Bool.false_or];rw [show subC ((T.l.length:Nat):Int) 1=some ((T.l.length-1:Nat):Int) by rw [subC_ok (by omega)]; exact congrArg some (by omega),oB];unfold finP;simp only;by_cases h1:R.length=1
  ·rw [show decide ((j:Int)=((T.l.length-1:Nat):Int))=true from dT (by omega),Bool.not_true,cond_false,if_pos h1,n2,List.length_reverse];by_cases h24:24<V.length
   ·rw [dT (show (24:Int)<((V.length:Nat):Int) by omega),cond_true,if_pos h24];exact .mkP _ _ rfl rfl rfl
   ·rw [dF (show ¬(24:Int)<((V.length:Nat):Int) by omega),cond_false,if_neg h24];exact .mkP _ _ n1 n2 rfl
  ·rw [show decide ((j:Int)=((T.l.length-1:Nat):Int))=false from dF (by omega),Bool.not_false,cond_true,if_neg h1];exact .mkP _ _ rfl rfl rfl
end Go.Proofs

namespace Go.Proofs
open Go Go.Ab
def Tk5 (l:List Z8):Prop:=∃p e,l=p++[e]/\e.FKind=5
structure Prn (s:Bs) (a b:Nat):Prop where
 len:s.length<=65536
 ab:a<b
 b64:b-a<=64
 bl:b<=s.length
 open_:∀i,i<a->s[i]?=some 91
 first:∃c,s[a]?=some c/\isL c=true
 word:∀k,a<=k->k<b->∃c,s[k]?=some c/\isW c=true
 close:∀i,b<=i->i<s.length->∃c,s[i]?=some c/\(c=33\/c=93)
theorem Tk5.hd {l:List Z8}(h:Tk5 l):∃x r,l=x::r/\(x.FKind≠5->Tk5 r):=by
 obtain⟨p,e,rfl,he⟩:=h;cases p with
 | nil=>exact⟨e,[],rfl,fun h=>absurd he h⟩
 | cons x p=>exact⟨x,p++[e],rfl,fun _=>⟨p,e,rfl,he⟩⟩
theorem part1 {nl:Bool}{x:Z8}{r:List Z8}:partC (⟨nl,x::r⟩:Sl Z8) (some (1:Int)) none=some ⟨nl,r⟩:=by
 unfold partC;rw [if_pos (by simp; omega)];simp
theorem gF {α β:Type}{o:Option α}{d:α}{k:α->Option β}{z:β->Prop}(b:Bool){v:α}(ho:o=some v) (hk:∀y,∃r,k y=some r/\z r):∃r,guardO b o d k=some r/\z r:=by
 cases b
 ·exact hk d
 ·rw [ho]; exact hk v
def PzOk (z:TRef×Int):Prop:=SOk z.1.FWraps
theorem pz_err (e:Int):PzOk (TRef.mk ([]:Bs) (Sl.nil:Sl Int),e):=⟨fun _=>rfl,Nat.zero_le _⟩
theorem p22 {l:Sl Z8}(h:Tk5 l.l) (y z:TRef) (hz:z.FWraps.nl=true->z.FWraps.l=[]):∃r,Z115_j22 l y z=some r/\PzOk r:=by
 obtain⟨x,r,e,-⟩:=h.hd;unfold Z115_j22;rw [e,show ((x::r:List Z8)[0]?)=some x from rfl,oB];cases (!decide (x.FKind=(5:Int)))
 ·rw [cond_false];by_cases hw:(24:Int)<((z.FWraps.l.length:Nat):Int)
  ·rw [dT hw]; exact⟨_,rfl,pz_err _⟩
  ·rw [dF hw];refine⟨_,rfl, ?_, ?_⟩
   ·intro hn;have:=hz hn;show z.FWraps.l.reverse=[];rw [this]; rfl
   ·show z.FWraps.l.reverse.length<=_;rw [List.length_reverse]; omega
 ·exact⟨_,rfl,pz_err _⟩
theorem p39:∀(n:Nat) (l:Sl Z8) (o:Int) (y z:TRef),Tk5 l.l->l.l.length<n->0<=o->o<=1000000->(z.FWraps.nl=true->z.FWraps.l=[])->z.FWraps.l.length+2*l.l.length<=1000000->∃r,Z115_l39 n l o y z=some r/\PzOk r
 | 0,_,_,_,_,_,h,_,_,_,_=>by omega
 | n+1,l,o,y,z,hl,hn,h0,h1,hz,hb=>by
  obtain⟨x,r,e,ht⟩:=hl.hd;have hlr:l.l.length=r.length+1:=by rw [e]; rfl
  have j44:∀(l2:Sl Z8) (z2:TRef),Tk5 l2.l->l2.l.length<=l.l.length->(z2.FWraps.nl=true->z2.FWraps.l=[])->z2.FWraps.l.length+2*l2.l.length<=1000000->∃q,Z115_j44 o y (Z115_l39 n) l2 z2=some q/\PzOk q:=by
   intro l2 z2 t2 hl2 hz2 hb2;unfold Z115_j44;by_cases ho:o=0
   ·rw [dT ho]; exact p22 t2 y z2 hz2
   ·rw [dF ho,cond_false];obtain⟨x2,r2,e2,ht2⟩:=t2.hd;have hlr2:l2.l.length=r2.length+1:=by rw [e2]; rfl
    have g0:l2.l[0]?=some x2:=by rw [e2]; rfl
    rw [g0,oB];by_cases hk:x2.FKind=1
    ·rw [dT hk];refine gF _ rfl fun w=>?_;cases ((!true)||(!(w.FText==([93]:Bs))))
     ·have hp:partC l2 (some (1:Int)) none=some ⟨l2.nl,r2⟩:=by
       obtain⟨a,b⟩:=l2;simp only at e2;subst e2; exact part1
      rw [cond_false,appC_ok (by decide) (by simp only [List.length_cons,List.length_nil]; omega),oB,hp,oB,subC_ok (by omega),oB];refine p39 n ⟨l2.nl,r2⟩ (o-1) y _ (ht2 (by omega)) (by simp only []; omega) (by omega) (by omega) ?_ ?_
      ·intro h; simp at h
      ·simp only [List.length_append,List.length_cons,List.length_nil]; omega
     ·exact⟨_,rfl,pz_err _⟩
    ·rw [dF hk];refine gF _ rfl fun w=>?_;exact⟨_,rfl,pz_err _⟩
  rw [Z115_l39,show l.l[0]?=some x by rw [e]; rfl,oB];refine gF _ rfl fun w=>?_;cases hc:((decide (x.FKind=(1:Int)))&&((w.FText==([33]:Bs))))
  ·rw [cond_false];exact j44 l z hl (Nat.le_refl _) hz hb
  ·rw [Bool.and_eq_true,decide_eq_true_iff] at hc;have hp:partC l (some (1:Int)) none=some ⟨l.nl,r⟩:=by
    obtain⟨a,b⟩:=l;simp only at e;subst e; exact part1
   rw [cond_true,appC_ok (by decide) (by simp only [List.length_cons,List.length_nil]; omega),oB,hp,oB];refine j44 ⟨l.nl,r⟩ _ (ht (by omega)) (by simp only []; omega) ?_ ?_
   ·intro h; simp at h
   ·simp only [List.length_append,List.length_cons,List.length_nil]; omega
theorem p65:∀(n:Nat) (l:Sl Z8) (o:Int),Tk5 l.l->l.l.length<n->0<=o->o+l.l.length<=1000000->l.l.length<=100000->∃r,Z115_l65 n l o=some r/\PzOk r
 | 0,_,_,_,h,_,_,_=>by omega
 | n+1,l,o,hl,hn,h0,h1,h2=>by
  obtain⟨x,r,e,ht⟩:=hl.hd;have hlr:l.l.length=r.length+1:=by rw [e]; rfl
  have hp:partC l (some (1:Int)) none=some ⟨l.nl,r⟩:=by
   obtain⟨a,b⟩:=l;simp only at e;subst e; exact part1
  rw [Z115_l65,show l.l[0]?=some x by rw [e]; rfl,oB];refine gF _ rfl fun w=>?_;cases hc:((decide (x.FKind=(1:Int)))&&((w.FText==([91]:Bs))))
  ·rw [cond_false];unfold Z115_j11;rw [show l.l[0]?=some x by rw [e]; rfl,oB];by_cases hk:x.FKind=2
   ·rw [dT hk,Bool.not_true,cond_false,oB,hp,oB];exact p39 F0 ⟨l.nl,r⟩ o _ _ (ht (by omega)) (by rw [F0_eq]; simp only []; omega) h0 (by omega) (fun _=>rfl) (by show 0+2*r.length<=_; omega)
   ·rw [dF hk]; exact⟨_,rfl,pz_err _⟩
  ·rw [Bool.and_eq_true,decide_eq_true_iff] at hc;rw [cond_true,addC_ok (by omega),oB,hp,oB];exact p65 n ⟨l.nl,r⟩ (o+1) (ht (by omega)) (by simp only []; omega) (by omega) (by simp only []; omega) (by simp only []; omega)
end Go.Proofs

namespace Go.Proofs
open Go Go.Ab
def nnW (w:List Int):Bool:=w.head?==some 1
def liW (w:List Int):Bool:=w.head?==some 2
def barS (s:Sl Int):Sl Int:=bif nnW s.l then⟨s.nl,s.l.drop 1⟩ else s
def bar (t:TRef):TRef:=⟨t.FName,barS t.FWraps⟩
def innerT (t:TRef):TRef:=⟨t.FName,⟨(barS t.FWraps).nl,(barS t.FWraps).l.drop 1⟩⟩
theorem clone_eq {s:Sl Int}(h:SOk s):Z75_q s=some s:=by
 unfold Z75_q;obtain⟨nl,l⟩:=s;cases nl with
 | true=>have:=h.1 rfl; simp only at this; subst this; rfl
 | false =>
  simp only [cond_false];rw [appC_ok (by omega) (by have:=h.2; simp at this ⊢; omega)];simp
theorem isNonNull_eq (t:TRef):Z113_q t=nnW t.FWraps.l:=by
 unfold Z113_q nnW on;cases t.FWraps.l with
 | nil=>rfl
 | cons a r=>simp; by_cases h:a=1<;>simp [h]
theorem head_one {w:List Int}(h:nnW w=true):1<=w.length:=by cases w<;>simp [nnW] at h ⊢
theorem sok_drop {α:Type}{s:Sl α}(n:Nat) (h:SOk s):SOk ⟨s.nl,s.l.drop n⟩:=⟨fun e=>by simp [h.1 e],by have:=h.2; simp; omega⟩
theorem barS_ok {s:Sl Int}(h:SOk s):SOk (barS s):=by
 unfold barS;cases nnW s.l with
 | true=>exact sok_drop 1 h
 | false=>exact h
theorem innerT_ok {t:TRef}(h:SOk t.FWraps):SOk (innerT t).FWraps:=sok_drop 1 (barS_ok h)
theorem nullable_eq {t:TRef}(h:SOk t.FWraps):Z114_q t=some (bar t):=by
 unfold Z114_q bar barS on;simp only [isNonNull_eq];cases hn:nnW t.FWraps.l with
 | true =>
  simp only [cond_true];rw [partC_tail (head_one hn)];simp only [oB];rw [clone_eq (sok_drop 1 h)]; rfl
 | false =>
  simp only [cond_false,oB];rw [clone_eq h]; rfl
theorem isList_eq {t:TRef}(h:SOk t.FWraps):Z112_q t=some (liW (barS t.FWraps).l):=by
 unfold Z112_q;rw [nullable_eq h];simp only [oB,on,bar,liW];cases (barS t.FWraps).l with
 | nil=>rfl
 | cons a r=>simp; by_cases h:a=2<;>simp [h]
theorem list_one {w:List Int}(h:liW w=true):1<=w.length:=by cases w<;>simp [liW] at h ⊢
theorem inner_eq {t:TRef}(h:SOk t.FWraps):Z111_q t=some (bif liW (barS t.FWraps).l then(innerT t,true) else(⟨[],Sl.nil⟩,false)):=by
 unfold Z111_q;rw [isList_eq h];simp only [oB];cases hl:liW (barS t.FWraps).l with
 | false=>rfl
 | true =>
  simp only [Bool.not_true,cond_false,cond_true];rw [nullable_eq h];simp only [oB,bar];rw [partC_tail (list_one hl)];rfl
end Go.Proofs

namespace Go.Proofs
open Go Go.Ab
def fil (l:List Int):List Int:=l.filter fun x=>!decide (x=1)
theorem equalAux (a1:Sl Int):∀(l:List Int) (s:Nat),l.length+s=a1.l.length->Z80_q12 a1 l s=some (if l=a1.l.drop s then Sum.inl () else Sum.inr false)
 | [],s,h=>by
  rw [Z80_q12,if_pos];rw [List.drop_eq_nil_of_le]; simp at h; omega
 | x::r,s,h=>by
  simp only [List.length_cons] at h;have hs:s<a1.l.length:=by omega
  have hg:=List.getElem?_eq_getElem hs;rw [Z80_q12];simp only [Ab.on];rw [hg,oB,equalAux a1 r (s+1) (by omega),Q.drop_of hg];generalize a1.l[s]=y;generalize a1.l.drop (s+1)=t;by_cases e:x=y
  ·subst e; simp only [decide_true,Bool.not_true,cond_false,List.cons.injEq,true_and]
  ·simp [e]
theorem equal_eq (a b:Sl Int):Z80_q a b=some (decide (a.l=b.l)):=by
 unfold Z80_q;by_cases h:a.l.length=b.l.length
 ·rw [show decide ((a.l.length:Int)=(b.l.length:Int))=true from dT (by omega)];simp only [Bool.not_true,cond_false];rw [equalAux b a.l 0 (by omega),List.drop_zero];by_cases e:a.l=b.l<;>simp [e,Ab.on]
 ·rw [show decide ((a.l.length:Int)=(b.l.length:Int))=false from dF (by omega)];have:a.l≠b.l:=fun e=>h (by rw [e]);simp [this]
theorem sameAux (a1:Sl Int):∀(l:List Int) (s:Nat),Z63_q11 a1 l s=Z80_q12 a1 l s
 | [],s=>rfl
 | x::r,s=>by rw [Z63_q11,Z80_q12]; simp only [Ab.on,sameAux a1 r]
theorem Z63_eq' (a b:Sl Int):Z63_q a b=some (decide (a.l=b.l)):=by
 rw [<- equal_eq]; unfold Z63_q Z80_q; rw [sameAux]; all_goals rfl
theorem loose_eq {s:Sl Int}(h:SOk s):∃nl,Z120_q s=some ⟨nl,fil s.l⟩:=by
 unfold Z120_q;rw [clone_eq h,oB,oB];exact⟨s.nl,rfl⟩
theorem shape_eq {a b:TRef}(ha:SOk a.FWraps) (hb:SOk b.FWraps):Z118_q a b=some (a.FName==b.FName&&decide (fil a.FWraps.l=fil b.FWraps.l)):=by
 obtain⟨n1,h1⟩:=loose_eq ha;obtain⟨n2,h2⟩:=loose_eq hb;unfold Z118_q;rw [h1,h2];cases h:a.FName==b.FName
 ·simp [guardO]
 ·simp [guardO,equal_eq]
theorem listsAux:∀(l:List Int) (s:Sl Int),s.l.length+l.length<=1073741824->∃nl,Z62_q7 l s=some ⟨nl,s.l++fil l⟩
 | [],s,_=>⟨s.nl,by rw [Z62_q7]; simp [fil]⟩
 | x::r,s,h=>by
  simp only [List.length_cons] at h;rw [Z62_q7];simp only [Ab.on];by_cases e:x=1
  ·subst e;obtain⟨nl,h1⟩:=listsAux r s (by omega);exact⟨nl,by simp [h1,fil]⟩
  ·obtain⟨nl,h1⟩:=listsAux r ⟨s.nl&&false,s.l++[x]⟩ (by simp; omega);refine⟨nl, ?_⟩;rw [show decide (x=1)=false by simpa using e];simp only [Bool.not_false,cond_true];rw [appC_ok (by decide) (by simp; omega),oB,oB];rw [show (List.isEmpty (⟨false,[x]⟩:Sl Int).l)=false from rfl,h1];simp [fil,e]
theorem Z62_is {t:TRef}(h:t.FWraps.l.length<=1048576):∃nl,Z62_q t=some ⟨nl,fil t.FWraps.l⟩:=by
 obtain⟨nl,h1⟩:=listsAux t.FWraps.l Sl.nil (by simp [Sl.nil]; omega);refine⟨nl, ?_⟩;unfold Z62_q;rw [h1];simp [Ab.on,Sl.nil]
theorem r05_shape_eq {a b:TRef}(ha:a.FWraps.l.length<=1048576) (hb:b.FWraps.l.length<=1048576):Z59_q a b=some (a.FName==b.FName&&decide (fil a.FWraps.l=fil b.FWraps.l)):=by
 obtain⟨n1,h1⟩:=Z62_is ha;obtain⟨n2,h2⟩:=Z62_is hb;unfold Z59_q;rw [h1,h2];cases h:a.FName==b.FName
 ·simp [guardO]
 ·simp [guardO,Z63_eq']
theorem r05_isNonNull_eq (t:TRef):Z54_q t=nnW t.FWraps.l:=isNonNull_eq t
theorem Z61_is {t:TRef}(h:t.FWraps.l.length<=1048576) (h1:1<=t.FWraps.l.length):Z61_q t=some ⟨t.FName,⟨false,t.FWraps.l.drop 1⟩⟩:=by
 unfold Z61_q;rw [partC_tail h1,oB,appC_ok (by decide) (by simp; omega)];simp
theorem r05_nullable_eq {t:TRef}(h:t.FWraps.l.length<=1048576):Z57_q t=some ⟨t.FName,⟨false,(barS t.FWraps).l⟩⟩:=by
 unfold Z57_q barS;simp only [Ab.on,r05_isNonNull_eq];cases hn:nnW t.FWraps.l
 ·simp only [cond_false];rw [appC_ok (by decide) (by simp; omega)];simp
 ·simp only [cond_true];rw [Z61_is h (head_one hn)]; rfl
theorem barS_len (s:Sl Int):(barS s).l.length<=s.l.length:=by unfold barS; cases nnW s.l<;>simp
theorem r05_isList_eq {t:TRef}(h:t.FWraps.l.length<=1048576):Z53_q t=some (liW (barS t.FWraps).l):=by
 unfold Z53_q;rw [r05_nullable_eq h];simp only [oB,Ab.on,liW];cases (barS t.FWraps).l with
 | nil=>rfl
 | cons a r=>simp; by_cases h:a=2<;>simp [h]
theorem r05_inner_is {t:TRef}(h:t.FWraps.l.length<=1048576):Z52_q t=some (bif liW (barS t.FWraps).l then(⟨t.FName,⟨false,(barS t.FWraps).l.drop 1⟩⟩,true) else(⟨[],Sl.nil⟩,false)):=by
 unfold Z52_q;rw [r05_isList_eq h];simp only [oB];cases hl:liW (barS t.FWraps).l with
 | false=>rfl
 | true =>
  simp only [Bool.not_true,cond_false,cond_true];rw [r05_nullable_eq h,oB,Z61_is (by have:=barS_len t.FWraps; simp only; omega) (list_one hl)];rfl
def barL (l:List Int):List Int:=bif nnW l then l.drop 1 else l
theorem barS_l (s:Sl Int):(barS s).l=barL s.l:=by unfold barS barL; cases nnW s.l<;>rfl
def wk:Nat->List Int->List Int->List Int
 | 0,_,_=>[]
 | n+1,a,b=>(bif nnW a&&nnW b then [1] else [])++(bif liW (barL a)&&liW (barL b) then 2::wk n ((barL a).drop 1) ((barL b).drop 1) else [])
def rf:Nat->List Int->List Int->Bool
 | 0,_,_=>false
 | n+1,a,b=>!(nnW b&&!nnW a)&&(!(liW (barL a)&&liW (barL b))||rf n ((barL a).drop 1) ((barL b).drop 1))
theorem barL_len (l:List Int):(barL l).length<=l.length:=by unfold barL; cases nnW l<;>simp
theorem barL_lt {l:List Int}(h:liW (barL l)=true):((barL l).drop 1).length<l.length:=by
 have h1:=list_one h; have h2:=barL_len l; simp; omega
theorem weakAux:∀(n:Nat) (a b z o:TRef),a.FWraps.l.length<n->SOk a.FWraps->SOk b.FWraps->o.FWraps.l.length+2*a.FWraps.l.length<=1073741824->(o.FWraps.nl=true->o.FWraps.l=[]) ->
  ∃nl,Z119_l9 n a b z o=some (⟨o.FName,⟨nl,o.FWraps.l++wk n a.FWraps.l b.FWraps.l⟩⟩,true)/\(nl=true->o.FWraps.l++wk n a.FWraps.l b.FWraps.l=[])
 | 0,_,_,_,_,h,_,_,_,_=>by omega
 | n+1,a,b,z,o,h,ha,hb,hl,hz=>by
  have key:∀o':TRef,o'.FWraps.l.length+2*a.FWraps.l.length<=1073741825->(o'.FWraps.nl=true->o'.FWraps.l=[])->∃nl,Z119_j14 a b z (Z119_l9 n) o'=some (⟨o'.FName,⟨nl,o'.FWraps.l++(bif liW (barL a.FWraps.l)&&liW (barL b.FWraps.l) then 2::wk n ((barL a.FWraps.l).drop 1) ((barL b.FWraps.l).drop 1) else [])⟩⟩,true) /\
    (nl=true->o'.FWraps.l++(bif liW (barL a.FWraps.l)&&liW (barL b.FWraps.l) then 2::wk n ((barL a.FWraps.l).drop 1) ((barL b.FWraps.l).drop 1) else [])=[]):=by
   intro o' ho' hz';unfold Z119_j14;rw [Z111_eq,Z111_eq,inner_eq ha,inner_eq hb,oB,oB,barS_l,barS_l];cases h1:liW (barL a.FWraps.l)
   ·exact⟨o'.FWraps.nl,by simp,by simpa using hz'⟩
   ·cases h2:liW (barL b.FWraps.l)
    ·exact⟨o'.FWraps.nl,by simp,by simpa using hz'⟩
    ·simp only [cond_true,Bool.not_true,Bool.or_self,cond_false,Bool.and_self];have hlt:=barL_lt h1;have ea:(innerT a).FWraps.l=(barL a.FWraps.l).drop 1:=by unfold innerT; rw [barS_l]
     have eb:(innerT b).FWraps.l=(barL b.FWraps.l).drop 1:=by unfold innerT; rw [barS_l]
     rw [appC_ok (by decide) (by simp; omega),oB];obtain⟨nl,h3,h4⟩:=weakAux n (innerT a) (innerT b) z ⟨o'.FName,⟨o'.FWraps.nl&&false,o'.FWraps.l++[2]⟩⟩ (by rw [ea]; omega) (innerT_ok ha) (innerT_ok hb) (by rw [ea]; simp only [List.length_append,List.length_singleton]; omega) (by simp);rw [show (List.isEmpty (⟨false,[(2:Int)]⟩:Sl Int).l)=false from rfl,h3,ea,eb];rw [ea,eb] at h4;exact⟨nl,by simp,fun e=>by have:=h4 e; simp at this⟩
  rw [Z119_l9,Z113_eq,Z113_eq,oB,isNonNull_eq,isNonNull_eq];cases h1:nnW a.FWraps.l
  ·obtain⟨nl,h2,h5⟩:=key o (by omega) hz;exact⟨nl,by simp only [guardO]; simp only [Bool.false_eq_true,if_false,Bool.and_false,cond_false]; rw [h2,wk,h1]; simp,fun e=>by rw [wk,h1]; simpa using h5 e⟩
  ·cases h2:nnW b.FWraps.l
   ·obtain⟨nl,h3,h5⟩:=key o (by omega) hz;exact⟨nl,by simp only [guardO]; simp only [if_true,oB,Bool.and_false,cond_false]; rw [h3,wk,h1,h2]; simp,fun e=>by rw [wk,h1,h2]; simpa using h5 e⟩
   ·obtain⟨nl,h3,h5⟩:=key ⟨o.FName,⟨o.FWraps.nl&&false,o.FWraps.l++[1]⟩⟩ (by simp only [List.length_append,List.length_singleton]; omega) (by simp);refine⟨nl, ?_,fun e=>by have:=h5 e; simp at this⟩;simp only [guardO,if_true,oB,Bool.and_self,cond_true];rw [appC_ok (by decide) (by simp; omega),oB];rw [show (List.isEmpty (⟨false,[(1:Int)]⟩:Sl Int).l)=false from rfl,h3,wk,h1,h2]
    simp
theorem weaken_eq' {a b:TRef}(ha:SOk a.FWraps) (hb:SOk b.FWraps):∃nl,Z119_q a b=some (bif (a.FName==b.FName&&decide (fil a.FWraps.l=fil b.FWraps.l)) then(⟨a.FName,⟨nl,wk F0 a.FWraps.l b.FWraps.l⟩⟩,true) else(⟨[],Sl.nil⟩,false))/\(nl=true->wk F0 a.FWraps.l b.FWraps.l=[]):=by
 have hl:=ha.2;obtain⟨nl,h1,h2⟩:=weakAux F0 a b TRef.zero ⟨a.FName,Sl.nil⟩ (by rw [F0_eq]; omega) ha hb (by simp [Sl.nil]; omega) (fun _=>rfl);refine⟨nl, ?_,fun e=>by simpa [Sl.nil] using h2 e⟩;unfold Z119_q Z119;rw [Z118_eq,shape_eq ha hb,oB,h1];cases (a.FName==b.FName&&decide (fil a.FWraps.l=fil b.FWraps.l))<;>simp [Sl.nil]
theorem weaken_eq {a b:TRef}(ha:SOk a.FWraps) (hb:SOk b.FWraps):∃nl,Z119_q a b=some (bif (a.FName==b.FName&&decide (fil a.FWraps.l=fil b.FWraps.l)) then(⟨a.FName,⟨nl,wk F0 a.FWraps.l b.FWraps.l⟩⟩,true) else(⟨[],Sl.nil⟩,false)) :=
 let ⟨nl,h,_⟩:=weaken_eq' ha hb; ⟨nl,h⟩
theorem fits_eq {a b:TRef}(ha:SOk a.FWraps) (hb:SOk b.FWraps):Z110_q a b=some ((a.FName==b.FName&&decide (fil a.FWraps.l=fil b.FWraps.l))&&decide (wk F0 a.FWraps.l b.FWraps.l=b.FWraps.l)):=by
 obtain⟨nl,h⟩:=weaken_eq ha hb;unfold Z110_q;rw [h,oB];cases hs:(a.FName==b.FName&&decide (fil a.FWraps.l=fil b.FWraps.l))
 ·simp [guardO]
 ·have hn:(a.FName==b.FName)=true:=by simp only [Bool.and_eq_true] at hs; exact hs.1
  simp only [guardO,cond_true,if_true];unfold Z117_q;rw [hn,equal_eq];simp [guardO]
def rt:List Int->Bool
 | []=>true
 | x::r=>(decide (x=1)||decide (x=2))&&!(decide (x=1)&&nnW r)&&rt r
theorem rt_tail {x:Int}{r:List Int}(h:rt (x::r)=true):rt r=true:=by rw [rt] at h; simp only [Bool.and_eq_true] at h; exact h.2
theorem rt_bar {l:List Int}(h:rt l=true):rt (barL l)=true/\nnW (barL l)=false:=by
 unfold barL;cases l with
 | nil=>exact⟨rfl,rfl⟩
 | cons x r =>
  cases hn:nnW (x::r)
  ·exact⟨h,hn⟩
  ·simp only [cond_true,List.drop_succ_cons,List.drop_zero];refine⟨rt_tail h, ?_⟩;have hx:x=1:=by simpa [nnW] using hn
   rw [rt] at h;simp only [hx,Bool.and_eq_true] at h
   simpa using h.1.2
theorem rt_list {l:List Int}(h:rt l=true) (hn:nnW l=false):liW l=false/\l=[]\/∃r,l=2::r/\rt r=true/\liW l=true:=by
 cases l with
 | nil=>exact .inl ⟨rfl,rfl⟩
 | cons x r =>
  refine .inr ⟨r, ?_⟩;have h2:=rt_tail h;have hx:x≠1:=by simpa [nnW] using hn
  rw [rt] at h;simp only [Bool.and_eq_true,Bool.or_eq_true,decide_eq_true_eq] at h;have:x=2:=h.1.1.resolve_left hx;subst this;exact⟨rfl,h2,rfl⟩
theorem fil_bar (l:List Int):fil (barL l)=fil l:=by
 unfold barL;cases l with
 | nil=>rfl
 | cons x r =>
  cases hn:nnW (x::r)
  ·rfl
  ·have hx:x=1:=by simpa [nnW] using hn
   subst hx;simp [fil]
theorem pre_bar (l:List Int):(bif nnW l then [1] else [])++barL l=l:=by
 unfold barL;cases l with
 | nil=>rfl
 | cons x r =>
  cases hn:nnW (x::r)
  ·rfl
  ·have hx:x=1:=by simpa [nnW] using hn
   subst hx; rfl
theorem wk_rf:∀(n:Nat) (a b:List Int),rt a=true->rt b=true->fil a=fil b->a.length<n->decide (wk n a b=b)=rf n a b
 | 0,_,_,_,_,_,h=>by omega
 | n+1,a,b,ha,hb,hf,hn=>by
  obtain⟨ha1,ha2⟩:=rt_bar ha;obtain⟨hb1,hb2⟩:=rt_bar hb;have hf':fil (barL a)=fil (barL b):=by rw [fil_bar,fil_bar,hf]
  have hpb:=pre_bar b;have hla:=barL_len a;rw [wk,rf];rcases rt_list ha1 ha2 with ⟨la,ea⟩|⟨ra,ea,hra,la⟩<;>rcases rt_list hb1 hb2 with ⟨lb,eb⟩|⟨rb,eb,hrb,lb⟩
  ·rw [eb] at hpb;rw [la,lb];simp only [Bool.and_self,cond_false,List.append_nil,Bool.not_false,Bool.true_or,Bool.and_true];rw [List.append_nil] at hpb;rw [<- hpb];cases nnW a<;>cases hh:nnW b<;>simp [hh,nnW]
  ·rw [ea,eb] at hf'; simp [fil] at hf'
  ·rw [ea,eb] at hf'; simp [fil] at hf'
  ·rw [eb] at hpb;rw [la,lb,ea,eb];simp only [Bool.and_self,cond_true,List.drop_succ_cons,List.drop_zero,Bool.not_true,Bool.false_or];have h2:fil ra=fil rb:=by rw [ea,eb] at hf'; simpa [fil] using hf'
   rw [ea] at hla;have ih:=wk_rf n ra rb hra hrb h2 (by simp at hla; omega);rw [<- ih];conv=>lhs; rw [<- hpb]
   cases nnW a<;>cases hh:nnW b<;>simp [hh,nnW]
theorem r05_fitsAux:∀(n:Nat) (a b:TRef),rt a.FWraps.l=true->rt b.FWraps.l=true->a.FWraps.l.length<=1048576->b.FWraps.l.length<=1048576->a.FWraps.l.length<n ->
  Z51_qn n a b=some ((a.FName==b.FName&&decide (fil a.FWraps.l=fil b.FWraps.l))&&rf n a.FWraps.l b.FWraps.l)
 | 0,_,_,_,_,_,_,h=>by omega
 | n+1,a,b,ra,rb,ha,hb,hn=>by
  rw [Z51_qn,r05_shape_eq ha hb,oB,r05_isNonNull_eq,r05_isNonNull_eq];cases hs:(a.FName==b.FName&&decide (fil a.FWraps.l=fil b.FWraps.l))
  ·simp [Ab.on]
  ·simp only [Bool.and_eq_true,decide_eq_true_eq] at hs;rw [r05_inner_is ha,r05_inner_is hb,barS_l,barS_l,rf];obtain⟨ha1,ha2⟩:=rt_bar ra;obtain⟨hb1,hb2⟩:=rt_bar rb;have hf':fil (barL a.FWraps.l)=fil (barL b.FWraps.l):=by rw [fil_bar,fil_bar,hs.2]
   have hla:=barL_len a.FWraps.l;have hlb:=barL_len b.FWraps.l;rcases rt_list ha1 ha2 with ⟨la,ea⟩|⟨xa,ea,hra,la⟩<;>rcases rt_list hb1 hb2 with ⟨lb,eb⟩|⟨xb,eb,hrb,lb⟩
   ·rw [la,lb];cases nnW a.FWraps.l<;>cases nnW b.FWraps.l<;>simp [Ab.on,guardO]
   ·rw [ea,eb] at hf'; simp [fil] at hf'
   ·rw [ea,eb] at hf'; simp [fil] at hf'
   ·rw [la,lb,ea,eb];have h2:fil xa=fil xb:=by rw [ea,eb] at hf'; simpa [fil] using hf'
    rw [ea] at hla; rw [eb] at hlb;simp only [List.length_cons] at hla hlb;have ih:=r05_fitsAux n ⟨a.FName,⟨false,xa⟩⟩ ⟨b.FName,⟨false,xb⟩⟩ hra hrb (by simp only; omega) (by simp only; omega) (by simp only; omega);simp only [hs.1,h2,decide_true,Bool.and_self,Bool.true_and] at ih;cases nnW a.FWraps.l<;>cases nnW b.FWraps.l<;>simp [Ab.on,guardO,ih]
end Go.Proofs

namespace Go.Proofs
open Go Go.Ab
theorem u8_small {n:Nat}(h:n<256):IntKind.wrap .u8 (n:Int)=(n:Int):=by
 have:(n:Int) % 256=n:=by omega
 simp [IntKind.wrap,IntKind.bits,IntKind.signed]; omega
theorem bytes_one (k:Nat):bytesC (⟨false,[((48+k:Nat):Int)]⟩:Sl Int)=[UInt8.ofNat (48+k)]:=by
 show [UInt8.ofNat ((48+k:Nat):Int).toNat]=_;rw [Int.toNat_natCast]
theorem dlen:∀(f u:Nat),u<10 ^ f->(Lib.decDigits u).length<=f+1:=by
 intro f;induction f with
 | zero =>
  intro u hu;have:u=0:=by simpa using hu
  subst this; rw [Lib.decDigits]; simp
 | succ f ih =>
  intro u hu;rw [Lib.decDigits]
  split
  ·simp
  ·have:=ih (u / 10) (by rw [Nat.pow_succ] at hu; omega);simp; omega
theorem dlen20 {u:Nat}(h:u<=9223372036854775808):(Lib.decDigits u).length<=21:=dlen 20 u (by omega)
theorem itoaLen {n:Int}(h0 : -9223372036854775808<=n) (h1:n<=9223372036854775807):(Lib.itoa n).length<=22:=by
 unfold Lib.itoa
 split
 ·have:=dlen20 (u:=n.natAbs) (by omega); simp; omega
 ·have:=dlen20 (u:=n.toNat) (by omega); omega
theorem digits_eq:∀(f u:Nat),u<10 ^ f->u<=9223372036854775808->f<=30->∀m,f+1<=m->Z39_qn m (-(u:Int))=some (Lib.decDigits u):=by
 intro f;induction f with
 | zero =>
  intro u hu hb hf m hm;have:u=0:=by simpa using hu
  subst this;obtain⟨m,rfl⟩:∃k,m=k+1:=⟨m-1,by omega⟩;rw [Lib.decDigits]; rfl
 | succ f ih =>
  intro u hu hb hf m hm;obtain⟨m,rfl⟩:∃k,m=k+1:=⟨m-1,by omega⟩;have h1:Int.tmod (-(u:Int)) 10 = -((u % 10:Nat):Int):=by rw [Int.neg_tmod]; rfl
  have h2:Int.tdiv (-(u:Int)) 10 = -((u / 10:Nat):Int):=by rw [Int.neg_tdiv]; rfl
  rw [Z39_qn,h1,h2,subC_ok (by omega),oB];have h3:(48:Int) - -((u % 10:Nat):Int)=((48+u % 10:Nat):Int):=by omega
  rw [h3,u8_small (by omega),Lib.decDigits];by_cases hs:u<10
  ·rw [dif_pos hs,show decide ((-10:Int) < -(u:Int))=true from dT (by omega),cond_true,Nat.mod_eq_of_lt hs,bytes_one]
  ·rw [dif_neg hs,show decide ((-10:Int) < -(u:Int))=false from dF (by omega),cond_false,IntWalk.i64_in _ (by omega),ih (u / 10) (by rw [Nat.pow_succ] at hu; omega) (by omega) (by omega) m (by omega),oB];have hl:=dlen20 (u:=u / 10) (by omega);rw [bytes_one,catC_ok (by simp; omega),oB]
theorem decimal_eq {n:Int}(h0 : -9223372036854775808<=n) (h1:n<=9223372036854775807):Z34_q n=some (Lib.itoa n):=by
 unfold Z34_q Z39_q;have hF:∀u:Nat,u<=9223372036854775808->Z39_qn F0 (-(u:Int))=some (Lib.decDigits u):=fun u hu=>digits_eq 20 u (by omega) hu (by omega) F0 (by rw [F0_eq]; omega);by_cases hn:n<0
 ·obtain⟨u,rfl⟩:∃u:Nat,n = -(u:Int):=⟨n.natAbs,by omega⟩;rw [show decide (-(u:Int)<0)=true from dT hn,cond_true,hF u (by omega),oB];have hl:=dlen20 (u:=u) (by omega);rw [catC_ok (by simp; omega),oB];unfold Lib.itoa; rw [if_pos hn,show (-(u:Int)).natAbs=u by omega]; rfl
 ·obtain⟨u,rfl⟩:∃u:Nat,n=(u:Int):=⟨n.natAbs,by omega⟩;rw [show decide ((u:Int)<0)=false from dF hn,cond_false,IntWalk.i64_in _ (by omega),show (0:Int)-(u:Int) = -(u:Int) by omega,hF u (by omega),oB];unfold Lib.itoa; rw [if_neg hn,Int.toNat_natCast]
theorem textDecimal_eq {n:Int}(h0 : -9223372036854775808<=n) (h1:n<=9223372036854775807):Z99_q n=some (Lib.itoa n):=by
 unfold Z99_q Z84_q Z84;rw [if_pos ⟨h0,h1,by have:=itoaLen h0 h1; unfold maxS; omega⟩]; rfl
end Go.Proofs

namespace Go.Proofs
open Go Go.Ab
theorem cc {a b:Bs}(ha:a.length<=1000000000) (hb:b.length<=1000000000):catC a b=some (a++b):=catC_ok (by omega)
def words18:List Bs:=[[],[84,121,112,101,71,111,110,101],[84,121,112,101,78,101,119],[84,121,112,101,75,105,110,100],[70,105,101,108,100,71,111,110,101],[70,105,101,108,100,78,101,119],[70,105,101,108,100,84,121,112,101],[65,114,103,71,111,110,101],[65,114,103,78,101,119],[65,114,103,84,121,112,101],[65,114,103,68,101,102,97,117,108,116],[77,101,109,98,101,114,71,111,110,101],[77,101,109,98,101,114,78,101,119],[73,110,112,117,116,71,111,110,101],[73,110,112,117,116,78,101,119],[73,110,112,117,116,84,121,112,101],[73,110,112,117,116,68,101,102,97,117,108,116],[70,97,99,101,71,111,110,101],[70,97,99,101,78,101,119]]
theorem condFls {α:Type}{c:Bool}{a b:α}(h:c=false):(bif c then a else b)=b:=by rw [h]; rfl
theorem word_is {k:Int}(h0 : -9223372036854775808<=k) (h1:k<=9223372036854775807):∃s,Z25_q k=some s/\Z68_q k=some s/\s.length<=40:=by
 by_cases h:1<=k/\k<=18
 ·obtain⟨a,b⟩:=h;have hk:k=1\/k=2\/k=3\/k=4\/k=5\/k=6\/k=7\/k=8\/k=9\/k=10\/k=11\/k=12\/k=13\/k=14\/k=15\/k=16\/k=17\/k=18:=by omega
  rcases hk with rfl|rfl|rfl|rfl|rfl|rfl|rfl|rfl|rfl|rfl|rfl|rfl|rfl|rfl|rfl|rfl|rfl|rfl
  ·exact⟨words18.getD 1 [],by kernel_rfl,by kernel_rfl,by decide⟩
  ·exact⟨words18.getD 2 [],by kernel_rfl,by kernel_rfl,by decide⟩
  ·exact⟨words18.getD 3 [],by kernel_rfl,by kernel_rfl,by decide⟩
  ·exact⟨words18.getD 4 [],by kernel_rfl,by kernel_rfl,by decide⟩
  ·exact⟨words18.getD 5 [],by kernel_rfl,by kernel_rfl,by decide⟩
  ·exact⟨words18.getD 6 [],by kernel_rfl,by kernel_rfl,by decide⟩
  ·exact⟨words18.getD 7 [],by kernel_rfl,by kernel_rfl,by decide⟩
  ·exact⟨words18.getD 8 [],by kernel_rfl,by kernel_rfl,by decide⟩
  ·exact⟨words18.getD 9 [],by kernel_rfl,by kernel_rfl,by decide⟩
  ·exact⟨words18.getD 10 [],by kernel_rfl,by kernel_rfl,by decide⟩
  ·exact⟨words18.getD 11 [],by kernel_rfl,by kernel_rfl,by decide⟩
  ·exact⟨words18.getD 12 [],by kernel_rfl,by kernel_rfl,by decide⟩
  ·exact⟨words18.getD 13 [],by kernel_rfl,by kernel_rfl,by decide⟩
  ·exact⟨words18.getD 14 [],by kernel_rfl,by kernel_rfl,by decide⟩
  ·exact⟨words18.getD 15 [],by kernel_rfl,by kernel_rfl,by decide⟩
  ·exact⟨words18.getD 16 [],by kernel_rfl,by kernel_rfl,by decide⟩
  ·exact⟨words18.getD 17 [],by kernel_rfl,by kernel_rfl,by decide⟩
  ·exact⟨words18.getD 18 [],by kernel_rfl,by kernel_rfl,by decide⟩
 ·have hl:=itoaLen h0 h1;refine⟨[67,104,97,110,103,101,32]++Lib.itoa k, ?_, ?_,by simp; omega⟩
  ·unfold Z25_q;have:(decide (k<(1:Int))||decide ((18:Int)<k))=true:=by simp; omega
   rw [this,cond_true,textDecimal_eq h0 h1,oB,cc (by simp) (by omega)]; rfl
  ·unfold Z68_q;refine(condFls ?_).trans ?_
   ·rw [Bool.and_eq_false_iff,decide_eq_false_iff_not,decide_eq_false_iff_not];show ¬1<=k\/¬k<=18;omega
   ·rw [decimal_eq h0 h1,oB,cc (by simp) (by omega)]; rfl
theorem some_is (s:Bs):Z70_q s=Z24_q s:=rfl
theorem some_len {s:Bs}{n:Nat}(h:s.length<=n) (hn:4<=n):(Z24_q s).length<=n:=by
 unfold Z24_q;cases s==[]
 ·exact h
 ·simp; exact hn
def pF (f:Bs):Bs:=bif !(f==([]:Bs)) then [46]++f else []
def pA (f:Bs):Bs:=bif !(f==([]:Bs)) then [40]++f++[41] else []
def pT (a b:Bs):Bs:=bif (!(a==([]:Bs)))||(!(b==([]:Bs))) then [58,32]++Z24_q a++[32,45,62,32]++Z24_q b else []
def txt (w:Bs) (c:Z3):Bs:=w++[32]++c.FType++pF c.FField++pA c.FArg++pT c.FFrom c.FTo
theorem pF_len {f:Bs}(h:f.length<=1048576):(pF f).length<=1048577:=by unfold pF; cases !(f==[])<;>simp; omega
theorem pA_len {f:Bs}(h:f.length<=1048576):(pA f).length<=1048578:=by unfold pA; cases !(f==[])<;>simp; omega
theorem pT_len {a b:Bs}(h:a.length<=1048576) (h':b.length<=1048576):(pT a b).length<=2097160:=by
 have h1:=some_len h (by decide); have h2:=some_len h' (by decide);unfold pT; cases (!(a==[]))||(!(b==[]))<;>simp; omega
structure ChOk (c:Z3):Prop where
 t:c.FType.length<=1048576
 f:c.FField.length<=1048576
 a:c.FArg.length<=1048576
 x:c.FFrom.length<=1048576
 y:c.FTo.length<=1048576
 k0 : -9223372036854775808<=c.FKind
 k1:c.FKind<=9223372036854775807
theorem text_is {c:Z3}(h:ChOk c):∃s,Z11_q c=some s/\Z67_q c=some s/\s.length<=8388608:=by
 obtain⟨w,e1,e2,hw⟩:=word_is h.k0 h.k1;obtain⟨h1,h2,h3,h4,h5,_,_⟩:=h;have l2:=pF_len h2; have l3:=pA_len h3; have l4:=pT_len h4 h5;have s4:=some_len h4 (by decide); have s5:=some_len h5 (by decide);refine⟨txt w c, ?_, ?_,by unfold txt; simp only [List.length_append,List.length_singleton]; omega⟩
 ·unfold Z11_q;rw [e1,oB,cc (by omega) (by simp),oB,cc (by simp; omega) (by omega),oB];have a1:(bif (!(c.FField==([]:Bs))) then((catC ([46]:Bs) c.FField).bind fun x28=>(catC (w++[32]++c.FType) x28).bind fun x29=>some x29) else(some (w++[32]++c.FType)))=some (w++[32]++c.FType++pF c.FField):=by
   unfold pF;cases !(c.FField==[])
   ·simp
   ·rw [cond_true,cond_true,cc (by simp) (by omega),oB,cc (by simp; omega) (by simp; omega)]; rfl
  rw [a1,oB];generalize hX:w++[32]++c.FType++pF c.FField=X;have lX:X.length<=5000000:=by rw [<- hX]; simp only [List.length_append,List.length_singleton]; omega
  have a2:(bif (!(c.FArg==([]:Bs))) then((catC ([40]:Bs) c.FArg).bind fun x23=>(catC x23 ([41]:Bs)).bind fun x24=>(catC X x24).bind fun x25=>some x25) else(some X))=some (X++pA c.FArg):=by
   unfold pA;cases !(c.FArg==[])
   ·simp
   ·rw [cond_true,cond_true,cc (by simp) (by omega),oB,cc (by simp; omega) (by simp),oB,cc (by omega) (by simp; omega)]; rfl
  rw [a2,oB];generalize hY:X++pA c.FArg=Y;have lY:Y.length<=8000000:=by rw [<- hY]; simp only [List.length_append]; omega
  have a3:(bif ((!(c.FFrom==([]:Bs)))||(!(c.FTo==([]:Bs)))) then(Ab.on (Z24_q c.FFrom) fun x15=>(catC ([58,32]:Bs) x15).bind fun x16=>(catC x16 ([32,45,62,32]:Bs)).bind fun x17=>Ab.on (Z24_q c.FTo) fun x18=>(catC x17 x18).bind fun x19=>(catC Y x19).bind fun x20=>some x20) else(some Y))=some (Y++pT c.FFrom c.FTo):=by
   unfold pT;simp only [Ab.on];cases (!(c.FFrom==[]))||(!(c.FTo==[]))
   ·simp
   ·rw [cond_true,cond_true,cc (by simp) (by omega),oB,cc (by simp; omega) (by simp),oB,cc (by simp; omega) (by omega),oB,cc (by omega) (by simp; omega)]; rfl
  rw [a3,oB];unfold txt;rw [hX,hY]
 ·unfold Z67_q;rw [e2,oB,cc (by omega) (by simp),oB,cc (by simp; omega) (by omega),oB];have a1:(bif (!(c.FField==([]:Bs))) then((catC (w++[32]++c.FType) ([46]:Bs)).bind fun x28=>(catC x28 c.FField).bind fun x29=>some x29) else(some (w++[32]++c.FType)))=some (w++[32]++c.FType++pF c.FField):=by
   unfold pF;cases !(c.FField==[])
   ·simp
   ·rw [cond_true,cond_true,cc (by simp; omega) (by simp),oB,cc (by simp; omega) (by omega),List.append_assoc (w++[32]++c.FType)]; rfl
  rw [a1,oB];generalize hX:w++[32]++c.FType++pF c.FField=X;have lX:X.length<=5000000:=by rw [<- hX]; simp only [List.length_append,List.length_singleton]; omega
  have a2:(bif (!(c.FArg==([]:Bs))) then((catC X ([40]:Bs)).bind fun x23=>(catC x23 c.FArg).bind fun x24=>(catC x24 ([41]:Bs)).bind fun x25=>some x25) else(some X))=some (X++pA c.FArg):=by
   unfold pA;cases !(c.FArg==[])
   ·simp
   ·rw [cond_true,cond_true,cc (by omega) (by simp),oB,cc (by simp; omega) (by omega),oB,cc (by simp; omega) (by simp),oB]; simp only [List.append_assoc]
  rw [a2,oB];generalize hY:X++pA c.FArg=Y;have lY:Y.length<=8000000:=by rw [<- hY]; simp only [List.length_append]; omega
  have a3:(bif ((!(c.FFrom==([]:Bs)))||(!(c.FTo==([]:Bs)))) then((catC Y ([58,32]:Bs)).bind fun x15=>Ab.on (Z70_q c.FFrom) fun x16=>(catC x15 x16).bind fun x17=>(catC x17 ([32,45,62,32]:Bs)).bind fun x18=>Ab.on (Z70_q c.FTo) fun x19=>(catC x18 x19).bind fun x20=>some x20) else(some Y))=some (Y++pT c.FFrom c.FTo):=by
   unfold pT;simp only [Ab.on,some_is];cases (!(c.FFrom==[]))||(!(c.FTo==[]))
   ·simp
   ·rw [cond_true,cond_true,cc (by omega) (by simp),oB,cc (by simp; omega) (by omega),oB,cc (by simp; omega) (by simp),oB,cc (by simp; omega) (by omega),oB]; simp only [List.append_assoc]
  rw [a3,oB];unfold txt;rw [hX,hY]
end Go.Proofs

namespace Go.Proofs
open Go Go.Ab
theorem example49t:Z32=some true:=by kernel_rfl
theorem opK_rt {V:List Int}{R:List (Int×Bs)}(h:rt V.reverse=true) (h1:nnW V.reverse=false):rt (opK V R).1.reverse=true:=by
 unfold opK;cases R with
 | nil=>exact h
 | cons x r =>
  obtain⟨k,t⟩:=x;simp only
  split
  ·simp only [List.reverse_append,List.reverse_cons,List.reverse_nil,List.nil_append,List.singleton_append];rw [rt,h,h1]; rfl
  ·exact h
theorem clK_rt:∀(m:Nat) (R:List (Int×Bs)) (V:List Int) (R':List (Int×Bs)),clK m R=some (V,R')->rt V.reverse=true
 | 0,R,V,R',h=>by
  rw [clK] at h;have h:=oJ h;have:V=(opK [] R).1:=by rw [h]
  rw [this];exact opK_rt (V:=[]) rfl rfl
 | m+1,R,V,R',h=>by
  rw [clK] at h;cases e:clK m R with
  | none=>rw [e] at h; cases h
  | some p =>
   obtain⟨W,R2⟩:=p;rw [e] at h;have ih:=clK_rt m R W R2 e;simp only at h
   split at h
   ·have h:=oJ h;have:V=(opK (W++[2]) (R2.drop 1)).1:=by rw [h]
    rw [this];refine opK_rt ?_ ?_
    ·simp only [List.reverse_append,List.reverse_cons,List.reverse_nil,List.nil_append,List.singleton_append];rw [rt,ih]; rfl
    ·simp only [List.reverse_append,List.reverse_cons,List.reverse_nil,List.nil_append,List.singleton_append];rfl
   ·cases h
theorem e5_tk:∀{l:List Z8},E5 (l.map ktT)->Tk5 l
 | [],h=>h.elim
 | x::l,h=>by
  rcases (show (x.FKind=5/\l.map ktT=[])\/(x.FKind≠5/\E5 (l.map ktT)) from h) with ⟨h1,h2⟩|⟨_,h2⟩
  ·rw [List.map_eq_nil_iff] at h2;subst h2;exact⟨[],x,rfl,h1⟩
  ·obtain⟨p,e,e1,e2⟩:=e5_tk h2;exact⟨x::p,e,by rw [e1]; rfl,e2⟩
theorem outP_rt {m:Nat}{X:List (Int×Bs)}(h:(outP m X).2.2=0):rt (outP m X).2.1=true/\(outP m X).2.1.length<=24:=by
 unfold outP at h ⊢;cases X with
 | nil=>cases h
 | cons x R =>
  obtain⟨k,t⟩:=x;simp only at h ⊢
  split at h
  ·rename_i hk
   rw [if_pos hk];unfold finP at h ⊢;cases e:clK m R with
   | none=>rw [e] at h; cases h
   | some p =>
    obtain⟨V,R'⟩:=p;rw [e] at h;simp only at h ⊢
    split at h
    ·rename_i h1
     rw [if_pos h1]
     split at h
     ·cases h
     ·rename_i h2
      rw [if_neg h2];exact⟨clK_rt m R V R' e,by rw [List.length_reverse]; omega⟩
    ·cases h
  ·cases h
theorem parse2 (s:Bs):∃a b e,Z115 s=some (a,e)/\Z58 s=some (b,e)/\a.FName=b.FName/\a.FWraps.l=b.FWraps.l/\(e=0->SOk a.FWraps/\rt a.FWraps.l=true):=by
 obtain⟨L,p,e,h1,h2,h3⟩:=scan_eq s;by_cases he:e=0
 ·subst he;have h6:s.length<=65536:=by
   by_cases h:s.length<=65536
   ·exact h
   ·exfalso
    unfold Z104 at h1;rw [show decide ((65536:Int)<((s.length:Nat):Int))=true from dT (by omega),cond_true] at h1;cases h1
  have h5:E5 (L.l.map ktT):=by
   rcases scan_spec h6 with ⟨M,g1,g2,-⟩|⟨-,p',e',g2,g3⟩
   ·rw [h1] at g2;cases g2;have hk:=skN_le false s;have hp:=scT_pl s (by omega) F0 (skN false s) M (by omega) g1;have:=E5.of_pl M hp;rw [List.map_map]; exact this
   ·rw [h1] at g2;cases g2;exact absurd rfl g3
  have hkk:(cvS L).l.map kt4=L.l.map ktT:=by unfold cvS; rw [List.map_map]; rfl
  obtain⟨m,X,hK,ho⟩:=opens (L.l.map ktT);obtain⟨a,a1,a2,a3⟩:=tparse_is hK h5 ho (by omega);obtain⟨b,b1,b2,b3⟩:=rparse_is h2 (by rw [hkk]; exact hK) (by rw [hkk]; exact h5) ho (by unfold cvS; simp; omega);obtain⟨z,z1,z2⟩:=p65 F0 L 0 (e5_tk h5) (by rw [F0_eq]; omega) (by decide) (by omega) (by omega);rw [a1] at z1;obtain rfl:=oJ z1;refine⟨a,b,_, ?_,b1,by rw [a2,b2],by rw [a3,b3],fun h0=>⟨z2,by rw [a3]; exact(outP_rt h0).1⟩⟩
  unfold Z115;rw [h1,oB];simp only [decide_true,Bool.not_true,cond_false];exact a1
 ·refine⟨⟨[],Sl.nil⟩,⟨[],Sl.nil⟩,e, ?_, ?_,rfl,rfl,fun h=>absurd h he⟩
  ·unfold Z115;rw [h1,oB,show (!decide (e=0))=true by simpa using he]; rfl
  ·unfold Z58;rw [h2,oB,show (!decide (e=0))=true by simpa using he]; rfl
theorem fits_same2 {a b a' b':TRef}(ha:SOk a.FWraps) (hb:SOk b.FWraps) (ra:rt a.FWraps.l=true) (rb:rt b.FWraps.l=true) (n1:a.FName=a'.FName) (w1:a.FWraps.l=a'.FWraps.l) (n2:b.FName=b'.FName) (w2:b.FWraps.l=b'.FWraps.l) :
  ∃c,Z110_q a b=some c/\Z51_q a' b'=some c:=by
 have hl:=ha.2;refine⟨_,fits_eq ha hb, ?_⟩;unfold Z51_q;rw [r05_fitsAux F0 a' b' (by rw [<- w1]; exact ra) (by rw [<- w2]; exact rb) (by rw [<- w1]; exact ha.2) (by rw [<- w2]; exact hb.2) (by rw [F0_eq,<- w1]; omega),<- n1,<- w1,<- n2,<- w2];cases hs:(a.FName==b.FName&&decide (fil a.FWraps.l=fil b.FWraps.l))
 ·rfl
 ·simp only [Bool.and_eq_true,decide_eq_true_eq] at hs;rw [wk_rf F0 _ _ ra rb hs.2 (by rw [F0_eq]; omega)]
def hs33 (s:Bs):Bool:=s.getLast?==some 33
theorem last_drop {s:Bs}(h:1<=s.length):s.drop (s.length-1)=[s[s.length-1]]:=by
 rw [List.drop_eq_getElem_cons (by omega),List.drop_eq_nil_of_le (by omega)]
theorem suffix_is {s:Bs}(h:s.length<=1048576):Z93_q s ([33]:Bs)=some (hs33 s):=by
 unfold Z93_q Z29_q hs33;by_cases h1:1<=s.length
 ·have hc:cutC s (some ((s.length:Int)-1)) none=some (s.drop (s.length-1)):=by
   unfold cutC;rw [if_pos (by simp; omega)];simp only [Option.getD_some,Option.getD_none,Int.toNat_natCast,List.take_length]
   congr 2; omega
  simp only [List.length_cons,List.length_nil];rw [dT (by omega:(((0+1:Nat)):Int)<=((s.length:Nat):Int))];simp only [guardO,if_true];rw [show (((0+1:Nat)):Int)=1 from rfl,subC_ok (by omega),oB,hc,oB,oB,last_drop h1,Bool.true_and];rw [List.getLast?_eq_getElem?,List.getElem?_eq_getElem (by omega)]
  congr 1
  rw [Bool.eq_iff_iff]; simp
 ·have:s=[]:=List.eq_nil_of_length_eq_zero (by omega);subst this; rfl
theorem opt_j2 {s:Bs}(h:s.length<=1048576):Z69_j2 s=some (!hs33 s):=by
 unfold Z69_j2 hs33;by_cases h1:1<=s.length
 ·rw [dF (by omega:¬((s.length:Nat):Int)=0)];simp only [guardO,Bool.not_false,if_true,Bool.false_or];have hi:idxC s ((s.length:Int)-1)=some s[s.length-1]:=by
   unfold idxC; rw [if_pos (by omega),show ((s.length:Int)-1).toNat=s.length-1 by omega,List.getElem?_eq_getElem (by omega)]
  rw [subC_ok (by omega),oB,hi,oB,List.getLast?_eq_getElem?,List.getElem?_eq_getElem (by omega)]
  congr 2
  rw [Bool.eq_iff_iff];simp only [decide_eq_true_eq,beq_iff_eq,Option.some.injEq];constructor
  ·intro h; apply UInt8.toNat_inj.1; show _=33; omega
  ·intro h; rw [h]; rfl
 ·have:s=[]:=List.eq_nil_of_length_eq_zero (by omega);subst this; rfl
theorem opt_loop {s:Bs}(h:s.length<=1048576):∀(n i:Nat),s.length-i<n->i<=s.length->(∀j,j<i->Lib.occAt s [32,61,32] j=false)->Z69_l8 s n (i:Int)=some (!hs33 s&&!Lib.contains s [32,61,32])
 | 0,_,h,_,_=>by omega
 | n+1,i,hn,hi,hj=>by
  rw [Z69_l8,addC_ok (by omega),oB];by_cases c:i+3<=s.length
  ·rw [dT (by omega:((i:Nat):Int)+3<=((s.length:Nat):Int)),cond_true,oB];have hc:cutC s (some (i:Int)) (some ((i:Int)+3))=some ((s.drop i).take 3):=by
    unfold cutC;rw [if_pos (by simp; omega)];simp only [Option.getD_some,Int.toNat_natCast];rw [show ((i:Int)+3).toNat=i+3 by omega,List.drop_take,show i+3-i=3 by omega]
   rw [hc,oB];have ho:Lib.occAt s [32,61,32] i=((s.drop i).take 3==([32,61,32]:Bs)):=Lib.occAt_iff_take s [32,61,32] i c;cases hx:(s.drop i).take 3==([32,61,32]:Bs)
   ·rw [cond_false,addC_ok (by omega),oB,show ((i:Nat):Int)+1=((i+1:Nat):Int) by omega];refine opt_loop h n (i+1) (by omega) (by omega) fun j hj'=>?_;rcases Nat.lt_or_ge j i with d|d
    ·exact hj j d
    ·obtain rfl:j=i:=by omega
     rw [ho,hx]
   ·rw [cond_true];have:Lib.index s [32,61,32]=i:=Lib.index_first hi (by rw [ho,hx]) hj;unfold Lib.contains;rw [this,dT (by omega),Bool.not_true,Bool.and_false]
  ·rw [dF (by omega:¬((i:Nat):Int)+3<=((s.length:Nat):Int)),cond_false,opt_j2 h];have:Lib.index s [32,61,32] = -1:=Lib.index_none fun j _=>by
    rcases Nat.lt_or_ge j i with d|d
    ·exact hj j d
    ·cases e:Lib.occAt s [32,61,32] j
     ·rfl
     ·rcases Lib.occAt_room e with r|r
      ·simp at r; omega
      ·cases r
   unfold Lib.contains;rw [this,show decide ((0:Int) <= -1)=false from rfl,Bool.not_false,Bool.and_true]
theorem optional_is {s:Bs}(h:s.length<=1048576):Z69_q s=some (!hs33 s&&!Lib.contains s [32,61,32]):=by
 unfold Z69_q Z69;exact opt_loop h F0 0 (by rw [F0_eq]; omega) (Nat.zero_le _) (fun j hj=>by omega)
theorem additive_is {c:Z3}(hx:c.FFrom.length<=1048576) (hy:c.FTo.length<=1048576):∃b,Z9_q c=some b/\Z66_q c=some b:=by
 have add:∃b,((Z93_q c.FTo ([33]:Bs)).bind fun x13=>guardO ((!x13)) (Z90_q c.FTo ([32,61,32]:Bs)) false fun x14=>some ((!x13)&&(!x14)))=some b/\((Z69_q c.FTo).bind fun x13=>some x13)=some b:=by
  have ec:Z90_q c.FTo ([32,61,32]:Bs)=some (Lib.contains c.FTo [32,61,32]):=by
   unfold Z90_q Z90 containsC;rw [if_pos (by omega)]
  rw [suffix_is hy,oB,ec,optional_is hy,oB];cases hs33 c.FTo<;>exact⟨_,rfl,rfl⟩
 have typ:∃b,((Z115_q c.FFrom).bind fun x19=>(Z115_q c.FTo).bind fun x21=>guardO (((decide (x19.2=(0:Int)))&&(decide (x21.2=(0:Int))))) (Z110_q x19.1 x21.1) false fun x23=>some (((decide (x19.2=(0:Int)))&&(decide (x21.2=(0:Int))))&&x23))=some b /\
   ((Z58_q c.FFrom).bind fun x18=>(Z58_q c.FTo).bind fun x20=>guardO (((decide (x18.2=(0:Int)))&&(decide (x20.2=(0:Int))))) (Z51_q x18.1 x20.1) false fun x22=>some (((decide (x18.2=(0:Int)))&&(decide (x20.2=(0:Int))))&&x22))=some b:=by
  obtain⟨a,b,e,h1,h2,h3,h4,h5⟩:=parse2 c.FFrom;obtain⟨a',b',e',g1,g2,g3,g4,g5⟩:=parse2 c.FTo;rw [show Z115_q c.FFrom=some (a,e) from h1,show Z115_q c.FTo=some (a',e') from g1,<- Z58_eq,<- Z58_eq,h2,g2];simp only [oB];cases hc:(decide (e=0)&&decide (e'=0))
  ·exact⟨_,rfl,rfl⟩
  ·simp only [Bool.and_eq_true,decide_eq_true_eq] at hc;obtain⟨o1,r1⟩:=h5 hc.1;obtain⟨o2,r2⟩:=g5 hc.2;obtain⟨z,z1,z2⟩:=fits_same2 o1 o2 r1 r2 h3 h4 g3 g4;rw [z1,z2];exact⟨_,rfl,rfl⟩
 unfold Z9_q Z66_q;simp only [Ab.on];generalize (bif (decide (c.FKind=(2:Int))) then((decide (c.FKind=(2:Int)))) else(bif (decide (c.FKind=(5:Int))) then((decide (c.FKind=(5:Int)))) else(bif (decide (c.FKind=(12:Int))) then((decide (c.FKind=(12:Int)))) else((decide (c.FKind=(18:Int)))))))=k1;generalize (bif (decide (c.FKind=(8:Int))) then((decide (c.FKind=(8:Int)))) else((decide (c.FKind=(14:Int)))))=k2
 generalize (bif (decide (c.FKind=(9:Int))) then((decide (c.FKind=(9:Int)))) else((decide (c.FKind=(15:Int)))))=k3;cases k1
 ·cases k2
  ·cases k3
   ·exact⟨_,rfl,rfl⟩
   ·exact typ
  ·exact add
 ·exact⟨_,rfl,rfl⟩
theorem texts_eq {c:Z3}(h:ChOk c):Z31_q c=some true:=by
 obtain⟨s,e1,e2,_⟩:=text_is h;obtain⟨b,f1,f2⟩:=additive_is h.x h.y;unfold Z31_q;rw [e1,e2,f1,f2,example49t];cases (decide ((2000:Int)<((c.FFrom.length:Nat):Int)))||(decide ((2000:Int)<((c.FTo.length:Nat):Int)))
 ·simp [guardO]
 ·rfl
end Go.Proofs

namespace Go.Proofs.YtekcmpooblhllaaGreatDoor
open Go Go.Ab Go.RowKit Go.ChangeShapes Go.WideShapes Go.ChangeAt
variable {lou:Lou} [IsLoud lou]
theorem bulkAll {H:Type}(l:List (DataW H)):Rows.uptoBulkAll l=(l.map Rows.uptoBulk).sum:=by
 induction l with
 | nil=>rfl
 | cons x r ih=>simp only [Rows.uptoBulkAll,List.map_cons,List.sum_cons,ih]
theorem bulkB {H:Type}:Bulk (H:=H) Rows.uptoBulk:=by
 refine⟨fun d=>?_,fun b=>by simp [Rows.uptoBulk],fun e s=>by simp only [Rows.uptoBulk,bulkAll]; omega,fun l=>by simp only [Rows.uptoBulk,bulkAll]; omega⟩;cases d with
 | lit l=>cases l<;>simp [Rows.uptoBulk]
 | nil=>simp [Rows.uptoBulk]
 | ptr d=>simp [Rows.uptoBulk]
 | slice elems spare=>simp [Rows.uptoBulk]
 | agg parts=>simp [Rows.uptoBulk]
 | iface t d=>simp [Rows.uptoBulk]
 | map entries=>simp [Rows.uptoBulk]
 | held h=>simp [Rows.uptoBulk]
theorem own:ownKnob Tryz.prog.godebug=none:=by kernel_rfl
theorem laid:laidOutB Tryz.prog=true:=by kernel_rfl
theorem bound {H:Type}{l:List (DataW H)}(hk:Rows.uptoSmall H l=true):Rows.uptoBulkAll l<=1048576:=oD hk
theorem table {W:World}(h:laidMet Tryz.prog Rows.changesTextsUptoRow.laid W):∃u fr,W.heap[1]?=some (.cells (Lib.pow10Tab.map fun z=>Value.int .u64 z).toArray u fr) :=
 tab_of (P:=Tryz.prog) (name := "internal/strconv.uint64pow10") (g:=1) (t:=171) (e:=158) (n:=20) (by kernel_rfl) (by kernel_rfl) (by kernel_rfl) (by kernel_rfl) (by kernel_rfl) (by kernel_rfl) h
  (by rw [show (Lib.tabData .u64 Lib.pow10Tab:DataW Unit)=Rows.laid_internal_strconv_uint64pow10 from(by kernel_rfl)]; exact .tail _ (.tail _ (.head _)))
theorem isTab (u:TypeId) (fr:Nat×Nat):IsTab Tryz.prog (.fix 1 (.cells (Lib.pow10Tab.map fun z=>Value.int .u64 z).toArray u fr)):=.of (by kernel_rfl)
theorem errv {W:World}(h:laidMet Tryz.prog Rows.changesTextsUptoRow.laid W):∃tp p u fr,W.heap[3]?=some (.cells #[.iface tp p] u fr) :=
 err_of (P:=Tryz.prog) (g:=3) (ti:=129) (by kernel_rfl) (by kernel_rfl) (by kernel_rfl) h (.tail _ (.tail _ (.tail _ (.head _))))
theorem isErr (tp:TypeId) (p:Value) (u:TypeId) (fr:Nat×Nat):IsErr Tryz.prog (.fix 3 (.cells #[.iface tp p] u fr)):=.of (by kernel_rfl)
theorem maxv {W:World}(h:W.ShapedOpen Tryz.prog):∃cs t fr,W.heap[0]?=some (.cells cs t fr)/\∃m,cs[0]?=some (.int .i64 m):=by
 obtain⟨m,hm⟩:=Tryz.lay16.s1_3 W h;have hm':W.cell? ⟨0,0,none⟩=some (.int .i64 m):=hm;unfold World.cell? at hm'
 split at hm'
 ·rename_i cs t fr he
  exact⟨cs,t,fr,he,m,by simpa using hm'⟩
 ·cases hm'
theorem chok {c:Z3}(hs:c.sz<=1048576) (w:c.wf):ChOk c:=by
 have h:=c.sz_def;have b1:Bs.sz c.FType=c.FType.length+1:=rfl;have b2:Bs.sz c.FField=c.FField.length+1:=rfl;have b3:Bs.sz c.FArg=c.FArg.length+1:=rfl;have b4:Bs.sz c.FFrom=c.FFrom.length+1:=rfl;have b5:Bs.sz c.FTo=c.FTo.length+1:=rfl;exact⟨by omega,by omega,by omega,by omega,by omega,w.1.1,w.1.2⟩
theorem texts_call (c:Z3) (hs:c.sz<=1048576) (w:c.wf) (u:TypeId) (fr:Nat×Nat) (cs:Array Value) (t2:TypeId) (fr2:Nat×Nat) (tp:TypeId) (p:Value) (u3:TypeId) (fr3:Nat×Nat) (hm:∃m,cs[0]?=some (.int .i64 m)):AC Tryz.prog 3 [.agg c.c] (hTabN [(1,(.cells (Lib.pow10Tab.map fun z=>Value.int .u64 z).toArray u fr)),(0,(.cells cs t2 fr2)),(3,(.cells #[.iface tp p] u3 fr3))]) fun r h'=>r=.a (.d (.bool true))/\h'=hTabN [(1,(.cells (Lib.pow10Tab.map fun z=>Value.int .u64 z).toArray u fr)),(0,(.cells cs t2 fr2)),(3,(.cells #[.iface tp p] u3 fr3))] :=
 Z31_walk (by rw [Z31_eq]; exact texts_eq (chok hs w)) _ (gT:=0) rfl (isTab u fr) (gE:=2) rfl (isErr tp p u3 fr3) (gM:=1) rfl ⟨0,cs,t2,fr2,rfl,by kernel_rfl,hm⟩
end Go.Proofs.YtekcmpooblhllaaGreatDoor

