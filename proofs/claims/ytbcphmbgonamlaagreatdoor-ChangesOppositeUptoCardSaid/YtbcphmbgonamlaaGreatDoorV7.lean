import Derived.Test.YtbcphmbgonamlaaGreatDoorV6
import Derived.Test.YtbcphmbgonamlaaGreatDoorRows
set_option maxRecDepth 100000
set_option maxHeartbeats 2000000
set_option linter.unusedVariables false
set_option linter.unusedSimpArgs false
namespace Go.Proofs
open Go Go.Ab
theorem dlen:∀(f u:Nat),u<10 ^ f->(Lib.decDigits u).length<=f+1:=by
 intro f;induction f with
 | zero =>
  intro u hu;have:u=0:=by simpa using hu
  subst this; rw [Lib.decDigits]; simp
 | succ f ih =>
  intro u hu;rw [Lib.decDigits]
  split
  ·simp
  ·have:=ih (u / 10) (by rw [Nat.pow_succ] at hu; omega);simp; omega
theorem dlen20 {u:Nat}(h:u<=9223372036854775808):(Lib.decDigits u).length<=21:=dlen 20 u (by omega)
theorem itoaLen {n:Int}(h0 : -9223372036854775808<=n) (h1:n<=9223372036854775807):(Lib.itoa n).length<=22:=by
 unfold Lib.itoa
 split
 ·have:=dlen20 (u:=n.natAbs) (by omega); simp; omega
 ·have:=dlen20 (u:=n.toNat) (by omega); omega
theorem textDecimal_eq {n:Int}(h0 : -9223372036854775808<=n) (h1:n<=9223372036854775807):Z120_q n=some (Lib.itoa n):=by
 unfold Z120_q Z107_q Z107;rw [if_pos ⟨h0,h1,by have:=itoaLen h0 h1; unfold maxS; omega⟩]; rfl
theorem all_u8 {p:UInt8->Prop}(h:∀i:Fin 256,p (UInt8.ofNat i.val)) (c:UInt8):p c:=by
 have:=h ⟨c.toNat,c.toNat_lt⟩
 simpa using this
def hx (n:Nat):UInt8:=if n<10 then UInt8.ofNat (48+n) else UInt8.ofNat (87+n)
def esc (c:UInt8):Bs:=if c=34 then [92,34] else if c=92 then [92,92] else if c=10 then [92,110] else if c=13 then [92,114] else if c=9 then [92,116] else if 32<=c.toNat/\c.toNat<=126 then [c] else [92,117,48,48,hx (c.toNat / 16),hx (c.toNat % 16)]
def qt (s:Bs):Bs:=34::(s.flatMap esc++[34])
theorem esc_len (c:UInt8):(esc c).length<=6:=by
 unfold esc; (repeat' split);all_goals simp
theorem flat_len (s:Bs):(s.flatMap esc).length<=6*s.length:=by
 induction s with
 | nil=>simp
 | cons a r ih=>have:=esc_len a; simp only [List.flatMap_cons,List.length_append,List.length_cons]; omega
theorem qt_len (s:Bs):(qt s).length<=6*s.length+2:=by have:=flat_len s; simp only [qt,List.length_append,List.length_cons,List.length_nil]; omega
def bb (l:Bs):Strings_Builder:=⟨true,⟨false,l.map fun b=>(b.toNat:Int)⟩⟩
theorem bb_len (l:Bs):(bb l).Fbuf.l.length=l.length:=by simp [bb]
theorem wb_eq (l:Bs) (c:UInt8) (h:l.length<=1099511627000):Z109_q (bb l) ((c.toNat:Nat):Int)=some ((),bb (l++[c])):=by
 unfold Z109_q Z111_q;rw [Option.bind_some,appC_ok (by decide) (by show (bb l).Fbuf.l.length+1<=_; rw [bb_len]; omega),Option.bind_some];simp [bb]
theorem ws_eq (l s:Bs) (h:l.length+s.length<=1099511627000):∃k,Z110_q (bb l) s=some (k,(),bb (l++s)):=by
 unfold Z110_q Z111_q;rw [Option.bind_some,appC_ok (by decide) (by show (bb l).Fbuf.l.length+_<=_; rw [bb_len,strSl_len]; omega),Option.bind_some];exact⟨(s.length:Nat),by simp [bb,strSl]⟩
theorem str_eq (l:Bs) (h:l≠[]):Z108_q (bb l)=some l:=by
 unfold Z108_q bldStr;have h1:(bb l).Fbuf.l.all (fun n=>decide (0<=n/\n<256))=true:=by
  rw [List.all_eq_true];intro x hx;obtain⟨b,_,rfl⟩:=List.mem_map.1 hx;have:=b.toNat_lt;exact decide_eq_true ⟨by omega,by omega⟩
 rw [if_pos ⟨h1,.inr ⟨rfl,by simp [bb,h]⟩⟩];have:bytesC (bb l).Fbuf=l:=by
  unfold bytesC bb;rw [List.map_map];conv=>rhs; rw [<- List.map_id l]
  refine List.map_congr_left fun b _=>?_;simp
 rw [this]
theorem hexHi (c:UInt8):idxC ([48,49,50,51,52,53,54,55,56,57,97,98,99,100,101,102]:Bs) (Int.fdiv ((c.toNat:Nat):Int) (2 ^ (min (Int.toNat 4) (IntKind.bits .u8))))=some (hx (c.toNat / 16)):=by
 revert c
 apply all_u8
 decide +kernel
theorem hexLo (c:UInt8):idxC ([48,49,50,51,52,53,54,55,56,57,97,98,99,100,101,102]:Bs) (IntKind.wrap .u8 ((BitVec.ofInt (IntKind.bits .u8) ((c.toNat:Nat):Int) &&& BitVec.ofInt (IntKind.bits .u8) (15:Int)).toNat:Int))=some (hx (c.toNat % 16)):=by
 revert c
 apply all_u8
 decide +kernel
theorem u8_ne {c d:UInt8}:decide (((c.toNat:Nat):Int)=((d.toNat:Nat):Int))=decide (c=d):=by
 by_cases h:c=d
 ·subst h; simp
 ·rw [decide_eq_false h,decide_eq_false];intro e; exact h (UInt8.toNat_inj.1 (by omega))
theorem tquote_loop:∀(s:Bs) (o:Bs),o.length+6*s.length<=1099511626000->Z122_q15 s (bb o)=some (bb (o++s.flatMap esc)):=by
 intro s;induction s with
 | nil=>intro o _; simp [Z122_q15]
 | cons a r ih =>
  intro o h;have hel:=esc_len a;simp only [List.length_cons] at h;have fin:∀x:Bs,x=esc a->Z122_q15 r (bb (o++x))=some (bb (o++(a::r).flatMap esc)):=by
   rintro _ rfl;rw [ih _ (by simp; omega)]; simp
  have e34:=u8_ne (c:=a) (d:=34); have e92:=u8_ne (c:=a) (d:=92); have e10:=u8_ne (c:=a) (d:=10); have e13:=u8_ne (c:=a) (d:=13); have e9:=u8_ne (c:=a) (d:=9);rw [Z122_q15];simp only [Ab.on];rw [show (34:Int)=(((34:UInt8).toNat:Nat):Int) from rfl,e34,show (92:Int)=(((92:UInt8).toNat:Nat):Int) from rfl,e92,show (10:Int)=(((10:UInt8).toNat:Nat):Int) from rfl,e10,show (13:Int)=(((13:UInt8).toNat:Nat):Int) from rfl,e13,show (9:Int)=(((9:UInt8).toNat:Nat):Int) from rfl,e9]
  by_cases c1:a=34
  ·rw [decide_eq_true c1,cond_true,cond_true,wb_eq _ _ (by omega),Option.bind_some,wb_eq _ _ (by simp; omega),Option.bind_some,Option.bind_some];simp only [List.append_assoc];exact fin _ (by rw [c1]; rfl)
  rw [decide_eq_false c1,cond_false];by_cases c2:a=92
  ·rw [decide_eq_true c2,cond_true,wb_eq _ _ (by omega),Option.bind_some,wb_eq _ _ (by simp; omega),Option.bind_some,Option.bind_some];simp only [List.append_assoc];exact fin _ (by rw [c2]; rfl)
  rw [decide_eq_false c2,cond_false];by_cases c3:a=10
  ·obtain⟨k,e⟩:=ws_eq o [92,110] (by simp; omega);rw [decide_eq_true c3,cond_true,e,Option.bind_some,Option.bind_some];exact fin _ (by rw [c3]; rfl)
  rw [decide_eq_false c3,cond_false];by_cases c4:a=13
  ·obtain⟨k,e⟩:=ws_eq o [92,114] (by simp; omega);rw [decide_eq_true c4,cond_true,e,Option.bind_some,Option.bind_some];exact fin _ (by rw [c4]; rfl)
  rw [decide_eq_false c4,cond_false];by_cases c5:a=9
  ·obtain⟨k,e⟩:=ws_eq o [92,116] (by simp; omega);rw [decide_eq_true c5,cond_true,e,Option.bind_some,Option.bind_some];exact fin _ (by rw [c5]; rfl)
  rw [decide_eq_false c5,cond_false];have he:esc a=if 32<=a.toNat/\a.toNat<=126 then [a] else [92,117,48,48,hx (a.toNat / 16),hx (a.toNat % 16)]:=by
   unfold esc; rw [if_neg c1,if_neg c2,if_neg c3,if_neg c4,if_neg c5]
  by_cases c6:32<=a.toNat/\a.toNat<=126
  ·rw [show ((decide ((32:Int)<=((a.toNat:Nat):Int)))&&(decide (((a.toNat:Nat):Int)<=(126:Int))))=true by simp; omega,cond_true,wb_eq _ _ (by omega),Option.bind_some,Option.bind_some];exact fin _ (by rw [he,if_pos c6])
  ·rw [show ((decide ((32:Int)<=((a.toNat:Nat):Int)))&&(decide (((a.toNat:Nat):Int)<=(126:Int))))=false by simp; omega,cond_false];obtain⟨k,e⟩:=ws_eq o [92,117,48,48] (by simp; omega);rw [e,Option.bind_some,hexHi,Option.bind_some,wb_eq _ _ (by simp; omega),Option.bind_some,hexLo,Option.bind_some,wb_eq _ _ (by simp; omega),Option.bind_some,Option.bind_some];simp only [List.append_assoc];exact fin _ (by rw [he,if_neg c6]; rfl)
theorem tquote_eq (s:Bs) (h:s.length<=1048576):Z122_q s=some (qt s):=by
 have hf:=flat_len s;unfold Z122_q;have h0:Z109_q Strings_Builder.zero (34:Int)=some ((),bb [34]):=by rfl
 rw [h0,Option.bind_some,tquote_loop _ _ (by simp; omega),Option.bind_some];simp only [Ab.on];rw [show (34:Int)=(((34:UInt8).toNat:Nat):Int) from rfl,wb_eq _ _ (by simp only [List.length_append,List.length_cons,List.length_nil]; omega),Option.bind_some,str_eq _ (by simp)];simp [qt]
def sepB:Bs:=[44,32]
def pairB (a b:Bs):Bs:=a++[58,32]++b
mutual
def wv:Z7->Bs
 | .mk k i t _ items keys=>if k=1 then(if i=0 then [102,97,108,115,101] else [116,114,117,101]) else if k=2 then Lib.itoa i else if k=3 then qt t else if k=4 then t else if k=7 then 36::t else
  if k=5 then 91::(Lib.join (wvL items) sepB++[93]) else if k=6 then 123::(Lib.join (List.zipWith pairB keys.l (wvL items)) sepB++[125]) else [110,117,108,108]
def wvL:List Z7->List Bs
 | []=>[]
 | v::r=>wv v::wvL r
end
theorem wvL_eq (l:List Z7):wvL l=l.map wv:=by
 induction l with
 | nil=>rw [wvL]; rfl
 | cons a r ih=>rw [wvL,ih]; rfl
theorem wv_eq (v:Z7):wv v=if v.FKind=1 then(if v.FInt=0 then [102,97,108,115,101] else [116,114,117,101]) else if v.FKind=2 then Lib.itoa v.FInt else if v.FKind=3 then qt v.FText else if v.FKind=4 then v.FText else if v.FKind=7 then 36::v.FText else
  if v.FKind=5 then 91::(Lib.join (v.FItems.l.map wv) sepB++[93]) else if v.FKind=6 then 123::(Lib.join (List.zipWith pairB v.FKeys.l (v.FItems.l.map wv)) sepB++[125]) else [110,117,108,108]:=by
 cases v with
 | mk k i t nl items keys =>
  rw [wv];simp only [Z7.FKind,Z7.FInt,Z7.FText,Z7.FItems,Z7.FKeys,wvL_eq];rfl
theorem tail_len (r:List Bs):(Lib.joinTail sepB r).length=(r.map fun x=>x.length+2).sum:=by
 induction r with
 | nil=>rfl
 | cons a r ih =>
  have:Lib.joinTail sepB (a::r)=sepB++a++Lib.joinTail sepB r:=by simp [Lib.joinTail]
  have h2:sepB.length=2:=rfl;rw [this,List.length_append,List.length_append,ih,List.map_cons,List.sum_cons]; omega
theorem join_len (l:List Bs):(Lib.join l sepB).length<=(l.map fun x=>x.length+2).sum:=by
 cases l with
 | nil=>rw [Lib.join_nil]; simp
 | cons a r=>rw [Lib.join_cons]; simp only [List.length_append,tail_len,List.map_cons,List.sum_cons]; omega
theorem sum_le {α:Type}(f g:α->Nat):∀(l:List α),(∀x∈l,f x<=g x)->(l.map f).sum<=(l.map g).sum
 | [],_=>by simp
 | a::r,h=>by have:=h a (by simp); have:=sum_le f g r fun x hx=>h x (by simp [hx]); simp only [List.map_cons,List.sum_cons]; omega
theorem zip_sum:∀(ks:List Bs) (ws:List Bs),((List.zipWith pairB ks ws).map fun x=>x.length+2).sum<=(ks.map Bs.sz).sum+(ws.map fun x=>x.length+4).sum
 | [],_=>by simp
 | _::_,[]=>by simp
 | a::r,b::t=>by
  have:=zip_sum r t;have h2:(pairB a b).length=a.length+2+b.length:=by simp [pairB]; omega
  have h3:Bs.sz a=a.length+1:=rfl;simp only [List.zipWith_cons_cons,List.map_cons,List.sum_cons,h2,h3]; omega
theorem mul_sum {α:Type}(f:α->Nat) (k:Nat) (l:List α):(l.map fun x=>k*f x).sum=k*(l.map f).sum:=by
 induction l with
 | nil=>simp
 | cons a r ih=>simp only [List.map_cons,List.sum_cons,ih,Nat.mul_add]
theorem count_le (l:List Z7):l.length<=(l.map Z7.sz).sum:=by
 induction l with
 | nil=>simp
 | cons a r ih=>have:=a.pos; simp only [List.length_cons,List.map_cons,List.sum_cons]; omega
theorem wv_len (n:Nat):∀v:Z7,v.sz<n->v.wf->(wv v).length+4<=32*v.sz:=by
 induction n with
 | zero=>intro v h; omega
 | succ n ih =>
  intro v hn hw;have hd:=v.sz_def;have ht:Bs.sz v.FText=v.FText.length+1:=rfl;have hk:Sl.sz Bs.sz v.FKeys=1+(v.FKeys.l.map Bs.sz).sum:=rfl;have hi:Sl.sz Z7.sz v.FItems=1+(v.FItems.l.map Z7.sz).sum:=rfl;have hwf:=(Z7.wf_iff v).1 hw;have hit:((v.FItems.l.map wv).map fun x=>x.length+4).sum<=32*(v.FItems.l.map Z7.sz).sum:=by
   rw [List.map_map,<- mul_sum];exact sum_le _ _ _ fun x hx=>ih x (by have:=Z7.item_lt hx; omega) (hwf.2.2.2.1.2.2 x hx)
  have hi2:((v.FItems.l.map wv).map fun x=>x.length+2).sum<=((v.FItems.l.map wv).map fun x=>x.length+4).sum:=sum_le _ _ _ fun _ _=>by omega
  have hin:(Lib.itoa v.FInt).length<=22:=itoaLen hwf.2.1.1 hwf.2.1.2;have hj:=join_len (v.FItems.l.map wv);have hz:=join_len (List.zipWith pairB v.FKeys.l (v.FItems.l.map wv));have hz2:=zip_sum v.FKeys.l (v.FItems.l.map wv);have hq:=qt_len v.FText;rw [wv_eq]
  (repeat' split)
  all_goals (try simp only [List.length_cons,List.length_append,List.length_nil])<;>omega
theorem join_eq (nl:Bool) (l:List Bs) (h:l.length<=1099511627776/\(Lib.join l sepB).length<=1099511627776):Z119 ⟨nl,l⟩ ([44,32]:Bs)=some (Lib.join l sepB):=by
 unfold Z119 joinA;have h1:l.length<=maxN:=by unfold maxN; omega
 have h2:(Lib.join l [44,32]).length<=maxN:=by have:=h.2; unfold sepB at this; unfold maxN; omega
 rw [if_pos ⟨h1,h2⟩]; rfl
theorem vj29 {nl:Bool}{l:List Bs}(h:l.length<=1099511627776/\(Lib.join l sepB).length<=1099511627776):Z98_j29 ⟨nl,l⟩=some (91::(Lib.join l sepB++[93])):=by
 unfold Z98_j29;rw [join_eq nl l h,Option.bind_some,catC_ok (by simp only [List.length_cons,List.length_nil]; omega),Option.bind_some,catC_ok (by simp only [List.length_append,List.length_cons,List.length_nil]; omega),Option.bind_some];simp
theorem vj50 {nl:Bool}{l:List Bs}(h:l.length<=1099511627776/\(Lib.join l sepB).length<=1099511627776):Z98_j50 ⟨nl,l⟩=some (123::(Lib.join l sepB++[125])):=by
 unfold Z98_j50;rw [join_eq nl l h,Option.bind_some,catC_ok (by simp only [List.length_cons,List.length_nil]; omega),Option.bind_some,catC_ok (by simp only [List.length_append,List.length_cons,List.length_nil]; omega),Option.bind_some];simp
theorem vlist {v:Z7}{rec:Z7->Option Bs}(hr:∀x∈v.FItems.l,rec x=some (wv x)) (hl:v.FItems.l.length<=1048576):∀(n i:Nat) (nl:Bool),i<=v.FItems.l.length->v.FItems.l.length-i<n ->
  ∃nl',Z98_l37 v rec n ⟨nl,(v.FItems.l.take i).map wv⟩ i=Z98_j29 ⟨nl',v.FItems.l.map wv⟩
 | 0,_,_,_,h=>by omega
 | n+1,i,nl,h1,h2=>by
  rw [Z98_l37];by_cases hi:i<v.FItems.l.length
  ·rw [decide_eq_true (by omega:((i:Nat):Int)<((v.FItems.l.length:Nat):Int)),cond_true,List.getElem?_eq_getElem hi,Option.bind_some,hr _ (List.getElem_mem hi),Option.bind_some,
    appC_ok (by decide) (by simp only [List.length_map,List.length_take,List.length_cons,List.length_nil]; omega),Option.bind_some]
   have e:(v.FItems.l.take i).map wv++[wv v.FItems.l[i]]=(v.FItems.l.take (i+1)).map wv:=by
    rw [List.take_add_one,List.getElem?_eq_getElem hi,List.map_append]; rfl
   simp only [e];exact vlist hr hl n (i+1) _ (by omega) (by omega)
  ·rw [decide_eq_false (by omega:¬((i:Nat):Int)<((v.FItems.l.length:Nat):Int)),cond_false,List.take_of_length_le (by omega)];exact⟨nl,rfl⟩
theorem vobj {v:Z7}{rec:Z7->Option Bs}(hr:∀x∈v.FItems.l,rec x=some (wv x)) (hb:∀x∈v.FItems.l,(wv x).length<=1099511627) (hkb:∀x∈v.FKeys.l,x.length<=1048576) (hl:v.FItems.l.length<=1048576) (hk:v.FKeys.l.length<=1048576):∀(n i:Nat) (nl:Bool),i<=(List.zipWith pairB v.FKeys.l (v.FItems.l.map wv)).length->(List.zipWith pairB v.FKeys.l (v.FItems.l.map wv)).length-i<n ->
  ∃nl',Z98_l59 v rec n ⟨nl,(List.zipWith pairB v.FKeys.l (v.FItems.l.map wv)).take i⟩ (i:Int)=Z98_j50 ⟨nl',List.zipWith pairB v.FKeys.l (v.FItems.l.map wv)⟩
 | 0,_,_,_,h=>by omega
 | n+1,i,nl,h1,h2=>by
  have hz:(List.zipWith pairB v.FKeys.l (v.FItems.l.map wv)).length=min v.FKeys.l.length v.FItems.l.length:=by rw [List.length_zipWith,List.length_map]
  have hm:(if ((v.FItems.l.length:Nat):Int)<((v.FKeys.l.length:Nat):Int) then((v.FItems.l.length:Nat):Int) else((v.FKeys.l.length:Nat):Int))=((min v.FKeys.l.length v.FItems.l.length:Nat):Int):=by split<;>omega
  rw [Z98_l59,hm];by_cases hi:i<min v.FKeys.l.length v.FItems.l.length
  ·have k1:i<v.FKeys.l.length:=by omega
   have k2:i<v.FItems.l.length:=by omega
   have x1:idxC v.FKeys.l (i:Int)=some v.FKeys.l[i]:=by unfold idxC; rw [if_pos (by omega),Int.toNat_natCast,List.getElem?_eq_getElem k1]
   have x2:idxC v.FItems.l (i:Int)=some v.FItems.l[i]:=by unfold idxC; rw [if_pos (by omega),Int.toNat_natCast,List.getElem?_eq_getElem k2]
   have b1:=hkb _ (List.getElem_mem k1);have b2:=hb _ (List.getElem_mem k2);have ha:addC (i:Int) 1=some ((i+1:Nat):Int):=by rw [addC_ok (by omega)]; rfl
   rw [decide_eq_true (by omega:((i:Nat):Int)<((min v.FKeys.l.length v.FItems.l.length:Nat):Int)),cond_true,x1,Option.bind_some,catC_ok (by simp only [List.length_cons,List.length_nil]; omega),Option.bind_some,x2,Option.bind_some,hr _ (List.getElem_mem k2),Option.bind_some,
    catC_ok (by simp only [List.length_append,List.length_cons,List.length_nil]; omega),Option.bind_some,appC_ok (by decide) (by simp only [List.length_take,List.length_cons,List.length_nil]; omega),Option.bind_some,ha,Option.bind_some]
   have e:(List.zipWith pairB v.FKeys.l (v.FItems.l.map wv)).take i++[v.FKeys.l[i]++[58,32]++wv v.FItems.l[i]]=(List.zipWith pairB v.FKeys.l (v.FItems.l.map wv)).take (i+1):=by
    rw [List.take_add_one,List.getElem?_eq_getElem (by omega),List.getElem_zipWith,List.getElem_map]; rfl
   simp only [e];exact vobj hr hb hkb hl hk n (i+1) _ (by omega) (by omega)
  ·rw [decide_eq_false (by omega:¬((i:Nat):Int)<((min v.FKeys.l.length v.FItems.l.length:Nat):Int)),cond_false,List.take_of_length_le (by omega)];exact⟨nl,rfl⟩
theorem sval_n (n:Nat):∀v:Z7,v.sz<n->v.sz<=1048576->v.wf->Z98_n n v=some (wv v):=by
 induction n with
 | zero=>intro v h; omega
 | succ n ih =>
  intro v hn hs hw;have hd:=v.sz_def;have ht:Bs.sz v.FText=v.FText.length+1:=rfl;have hk:Sl.sz Bs.sz v.FKeys=1+(v.FKeys.l.map Bs.sz).sum:=rfl;have hi:Sl.sz Z7.sz v.FItems=1+(v.FItems.l.map Z7.sz).sum:=rfl;have hwf:=(Z7.wf_iff v).1 hw;have hrec:∀x∈v.FItems.l,Z98_n n x=some (wv x):=fun x hx=>ih x (by have:=Z7.item_lt hx; omega) (by have:=Z7.item_lt hx; omega) (hwf.2.2.2.1.2.2 x hx);have hbl:∀x∈v.FItems.l,(wv x).length+4<=32*x.sz:=fun x hx=>wv_len (x.sz+1) x (by omega) (hwf.2.2.2.1.2.2 x hx)
  have hit:((v.FItems.l.map wv).map fun x=>x.length+4).sum<=32*(v.FItems.l.map Z7.sz).sum:=by
   rw [List.map_map,<- mul_sum];exact sum_le _ _ _ fun x hx=>hbl x hx
  have hi2:((v.FItems.l.map wv).map fun x=>x.length+2).sum<=((v.FItems.l.map wv).map fun x=>x.length+4).sum:=sum_le _ _ _ fun _ _=>by omega
  have hz2:=zip_sum v.FKeys.l (v.FItems.l.map wv);have hj:=join_len (v.FItems.l.map wv);have hz:=join_len (List.zipWith pairB v.FKeys.l (v.FItems.l.map wv));have hc:=count_le v.FItems.l;have hkl:=Sl.len_le (f:=Bs.sz) v.FKeys (fun x=>Bs.sz_pos x);rw [Z98_n,wv_eq];by_cases c1:v.FKind=1
  ·rw [if_pos c1,decide_eq_true c1,cond_true];by_cases c:v.FInt=0
   ·rw [if_pos c,decide_eq_true c,cond_true]
   ·rw [if_neg c,decide_eq_false c,cond_false]
  rw [if_neg c1,decide_eq_false c1,cond_false];by_cases c2:v.FKind=2
  ·rw [if_pos c2,decide_eq_true c2,cond_true,Z120_eq,textDecimal_eq hwf.2.1.1 hwf.2.1.2,Option.bind_some]
  rw [if_neg c2,decide_eq_false c2,cond_false];by_cases c3:v.FKind=3
  ·rw [if_pos c3,decide_eq_true c3,cond_true,Z122_eq,tquote_eq _ (by omega),Option.bind_some]
  rw [if_neg c3,decide_eq_false c3,cond_false];by_cases c4:v.FKind=4
  ·rw [if_pos c4,decide_eq_true c4,cond_true]
  rw [if_neg c4,decide_eq_false c4,cond_false];by_cases c7:v.FKind=7
  ·rw [if_pos c7,decide_eq_true c7,cond_true,catC_ok (by simp only [List.length_cons,List.length_nil]; omega),Option.bind_some]; rfl
  rw [if_neg c7,decide_eq_false c7,cond_false];by_cases c5:v.FKind=5
  ·obtain⟨nl,e⟩:=vlist hrec (by omega) (v.FItems.l.length+1) 0 true (Nat.zero_le _) (by omega);rw [if_pos c5,decide_eq_true c5,cond_true];refine e.trans (vj29 ⟨by rw [List.length_map]; omega,by omega⟩)
  rw [if_neg c5,decide_eq_false c5,cond_false];by_cases c6:v.FKind=6
  ·have hzl:(List.zipWith pairB v.FKeys.l (v.FItems.l.map wv)).length<=v.FItems.l.length:=by rw [List.length_zipWith,List.length_map]; omega
   obtain⟨nl,e⟩:=vobj hrec (fun x hx=>by have:=hbl x hx; have:=Z7.item_lt hx; omega) (fun x hx=>by have:=Sl.mem_le (f:=Bs.sz) hx; have:Bs.sz x=x.length+1:=rfl; omega) (by omega) (by omega) F0 0 true (Nat.zero_le _) (by rw [F0_eq]; omega);rw [if_pos c6,decide_eq_true c6,cond_true];refine e.trans (vj50 ⟨by omega,by omega⟩)
  rw [if_neg c6,decide_eq_false c6,cond_false]
theorem sval_eq {v:Z7}(hs:v.sz<=1048576) (hw:v.wf):Z98 v=some (wv v):=sval_n F0 v (by rw [F0_eq]; omega) hs hw
theorem wv_le {v:Z7}(hs:v.sz<=1048576) (hw:v.wf):(wv v).length<=33554432:=by have:=wv_len (v.sz+1) v (by omega) hw; omega
def cls:List Int->Bs
 | []=>[]
 | w::r=>cls r++[if w=1 then 33 else 93]
def cnt:List Int->Nat
 | []=>0
 | w::r=>(if w=1 then 0 else 1)+cnt r
theorem cnt_le:∀l,cnt l<=l.length
 | []=>Nat.le_refl _
 | w::r=>by have:=cnt_le r; rw [cnt,List.length_cons]; split<;>omega
theorem cls_len:∀l,(cls l).length=l.length
 | []=>rfl
 | w::r=>by rw [cls,List.length_append,cls_len r]; rfl
def prt (N:Bs) (W:List Int):Bs:=List.replicate (cnt W) 91++(N++cls W)
def Rp (B:Strings_Builder) (l:Bs):Prop:=(l=[]/\B.Fbuf=⟨true,[]⟩)\/(l≠[]/\B.Fbuf=⟨false,l.map fun b=>(b.toNat:Int)⟩)
theorem Rp.buf {B:Strings_Builder}{l:Bs}(h:Rp B l):B.Fbuf.l=l.map fun b=>(b.toNat:Int):=by
 rcases h with ⟨rfl,h⟩|⟨_,h⟩<;>rw [h]; rfl
theorem byte_cast {n:Int}(h0:0<=n) (h1:n<256):((UInt8.ofNat n.toNat).toNat:Int)=n:=by
 rw [UInt8.toNat_ofNat',Nat.mod_eq_of_lt (by omega)]; omega
theorem Rp.wb {B:Strings_Builder}{l:Bs}(h:Rp B l){n:Int}(h0:0<=n) (h1:n<256) (hl:l.length<=1048576):∃B',Z109 B n=some ((),B')/\Rp B' (l++[UInt8.ofNat n.toNat]):=by
 refine⟨⟨true,⟨false,(l++[UInt8.ofNat n.toNat]).map fun b=>(b.toNat:Int)⟩⟩, ?_,.inr ⟨by simp,rfl⟩⟩;have hb:=h.buf;have hlen:B.Fbuf.l.length=l.length:=by rw [hb,List.length_map]
 unfold Z109 Z111 appC;simp only [Option.bind_some];rw [if_pos (by rw [hlen]; simp only [List.length_cons,List.length_nil]; unfold maxN; omega)];simp only [Option.bind_some,hb,List.map_append,List.map_cons,List.map_nil,byte_cast h0 h1,List.isEmpty_cons,Bool.and_false]
theorem Rp.str {B:Strings_Builder}{l:Bs}(h:Rp B l):Z108 B=some l:=by
 unfold Z108 bldStr;rw [if_pos]
 ·refine congrArg some ?_;unfold bytesC;rw [h.buf,List.map_map];conv=>rhs; rw [<- List.map_id l]
  refine List.map_congr_left fun b _=>?_;simp
 ·refine⟨?_, ?_⟩
  ·rw [h.buf,List.all_map,List.all_eq_true];intro b _;have:=b.toNat_lt;simp; omega
  ·rcases h with ⟨_,h⟩|⟨h2,h⟩
   ·rw [h]; exact .inl ⟨rfl,rfl⟩
   ·rw [h]; exact .inr ⟨rfl,by simpa using h2⟩
theorem idxP (l:List Int) (i:Nat):idxC l (i:Int)=l[i]?:=by unfold idxC; rw [if_pos (by omega)]; simp
theorem tprint4 (a:TRef) (hN:a.FName.length<=1048576) (hW:a.FWraps.l.length<=1048576):∀(n k:Nat) (B C:Strings_Builder),k<n->k<=a.FWraps.l.length->Rp B (List.replicate (cnt (a.FWraps.l.drop k)) 91)->Rp C (cls (a.FWraps.l.drop k))->Z136_l18 a n ((k:Int)-1) B C=some (prt a.FName a.FWraps.l)
 | 0,_,_,_,h,_,_,_=>by omega
 | n+1,0,B,C,_,_,hB,hC=>by
  have c1:=cnt_le a.FWraps.l;have c2:=cls_len a.FWraps.l;rw [Z136_l18,show decide ((0:Int)<=((0:Nat):Int)-1)=false from rfl,cond_false];unfold Z136_j7;rw [List.drop_zero] at hB hC;rw [hB.str,Option.bind_some,catC_ok (by simp; omega),Option.bind_some,hC.str,Option.bind_some,catC_ok (by simp; omega)];simp [prt]
 | n+1,k+1,B,C,h,hk,hB,hC=>by
  have c1:=cnt_le (a.FWraps.l.drop (k+1));have c2:=cls_len (a.FWraps.l.drop (k+1));simp only [List.length_drop] at c1 c2;obtain⟨w,hw⟩:∃w,a.FWraps.l[k]?=some w:=⟨_,List.getElem?_eq_getElem (show k<a.FWraps.l.length by omega)⟩;have hd:a.FWraps.l.drop k=w::a.FWraps.l.drop (k+1):=by
   obtain⟨hi,rfl⟩:=List.getElem?_eq_some_iff.1 hw;exact List.drop_eq_getElem_cons hi
  have hj:∀B C,Z136_j25 (k:Int) (Z136_l18 a n) B C=Z136_l18 a n ((k:Int)-1) B C:=by
   intro B C;unfold Z136_j25;rw [subC_ok (by omega),Option.bind_some]
  rw [Z136_l18,show ((k+1:Nat):Int)-1=(k:Int) by omega,show decide ((0:Int)<=(k:Int))=true from decide_eq_true (by omega),cond_true,idxP,hw,Option.bind_some];obtain⟨C1,u1,u2⟩:=hC.wb (n:=33) (by omega) (by omega) (by omega);obtain⟨C2,v1,v2⟩:=hC.wb (n:=93) (by omega) (by omega) (by omega);obtain⟨B1,x1,x2⟩:=hB.wb (n:=91) (by omega) (by omega) (by simp; omega);by_cases h1:w=1
  ·rw [decide_eq_true h1,cond_true,u1,Option.bind_some,hj];refine tprint4 a hN hW n k B C1 (by omega) (by omega) ?_ ?_
   ·rw [hd,cnt,if_pos h1,Nat.zero_add]; exact hB
   ·rw [hd,cls,if_pos h1]; exact u2
  ·rw [decide_eq_false h1,cond_false,x1,Option.bind_some,v1,Option.bind_some,hj];refine tprint4 a hN hW n k B1 C2 (by omega) (by omega) ?_ ?_
   ·rw [hd,cnt,if_neg h1,Nat.add_comm,List.replicate_succ']; exact x2
   ·rw [hd,cls,if_neg h1]; exact v2
theorem tprint4_eq {a:TRef}(hN:a.FName.length<=1048576) (hW:a.FWraps.l.length<=1048576):Z136 a=some (prt a.FName a.FWraps.l):=by
 unfold Z136;rw [subC_ok (by omega),Option.bind_some];refine tprint4 a hN hW F0 a.FWraps.l.length _ _ (by rw [F0_eq]; omega) (by omega) ?_ ?_
 ·rw [List.drop_of_length_le (by omega)]; exact .inl ⟨rfl,rfl⟩
 ·rw [List.drop_of_length_le (by omega)]; exact .inl ⟨rfl,rfl⟩
theorem prt_len {N:Bs}{W:List Int}:(prt N W).length<=N.length+2*W.length:=by
 have:=cnt_le W;unfold prt; simp only [List.length_append,List.length_replicate,cls_len]; omega
end Go.Proofs

namespace Go.Proofs
open Go Go.Ab
theorem cmpB_zero:∀s t:Bs,Lib.compareBytes s t=0↔s=t
 | [],[]=>by simp [Lib.compareBytes]
 | [],_::_=>by simp [Lib.compareBytes]
 | _::_,[]=>by simp [Lib.compareBytes]
 | a::r,b::q=>by
  rw [Lib.compareBytes];by_cases h1:a<b
  ·rw [if_pos h1];exact⟨fun h=>(by cases h),fun h=>by cases h; exact absurd h1 (UInt8.lt_irrefl _)⟩
  ·rw [if_neg h1];by_cases h2:b<a
   ·rw [if_pos h2];exact⟨fun h=>(by cases h),fun h=>by cases h; exact absurd h2 (UInt8.lt_irrefl _)⟩
   ·rw [if_neg h2,cmpB_zero r q];have:a=b:=UInt8.le_antisymm (UInt8.not_lt.1 h2) (UInt8.not_lt.1 h1);rw [this]; simp
theorem cmpI (a b:Int):∃c,Z26 a b=some c/\(c=0↔a=b):=by
 unfold Z26 Z27;simp only [decide_true,Bool.not_true,Option.bind_some,cond_false];by_cases h1:a<b
 ·rw [decide_eq_true h1]; exact⟨-1,rfl,⟨fun h=>(by cases h),fun h=>by omega⟩⟩
 ·rw [decide_eq_false h1];by_cases h2:b<a
  ·rw [decide_eq_true h2]; exact⟨1,rfl,⟨fun h=>(by cases h),fun h=>by omega⟩⟩
  ·rw [decide_eq_false h2]; exact⟨0,rfl,⟨fun _=>by omega,fun _=>rfl⟩⟩
theorem key_eq (v:Z7) (i:Nat):Z144 v (i:Int)=some (v.FKeys.l.getD i []):=by
 unfold Z144;by_cases h:i<v.FKeys.l.length
 ·have x1:idxC v.FKeys.l (i:Int)=some v.FKeys.l[i]:=by unfold idxC; rw [if_pos (by omega),Int.toNat_natCast,List.getElem?_eq_getElem h]
  rw [decide_eq_true (by omega:((i:Nat):Int)<((v.FKeys.l.length:Nat):Int)),cond_true,x1,Option.bind_some,List.getD_eq_getElem?_getD,List.getElem?_eq_getElem h]; rfl
 ·rw [decide_eq_false (by omega:¬((i:Nat):Int)<((v.FKeys.l.length:Nat):Int)),cond_false,List.getD_eq_getElem?_getD,List.getElem?_eq_none (by omega)]; rfl
def AtR (R:Z7->Z7->Prop) (v w:Z7) (j:Nat):Prop:=v.FKeys.l.getD j []=w.FKeys.l.getD j []/\∃x y,v.FItems.l[j]?=some x/\w.FItems.l[j]?=some y/\R x y
def EqV:Nat->Z7->Z7->Prop
 | 0,_,_=>False
 | n+1,v,w=>v.FKind=w.FKind/\v.FInt=w.FInt/\v.FText=w.FText/\v.FItems.l.length=w.FItems.l.length/\∀j,0<=j->j<v.FItems.l.length->AtR (EqV n) v w j
theorem EqV.symm:∀{n:Nat}{v w:Z7},EqV n v w->EqV n w v
 | 0,_,_,h=>h.elim
 | n+1,v,w,⟨a,b,c,d,e⟩=>⟨a.symm,b.symm,c.symm,d.symm,fun j h0 hj=>by
  obtain⟨k,x,y,h1,h2,h3⟩:=e j h0 (by omega);exact⟨k.symm,y,x,h2,h1,EqV.symm h3⟩⟩
theorem l37_spec {v w:Z7}{rec:Z7->Z7->Option Int}{k:Int->Int->Option Int}{n:Nat}(hk:∀z,k z 1=some z) (hrec:∀x∈v.FItems.l,∀y∈w.FItems.l,∃c,rec x y=some c/\(c=0↔EqV n x y)) (hl:v.FItems.l.length<=1048576) :
  ∀(f i:Nat),i<=min v.FItems.l.length w.FItems.l.length->min v.FItems.l.length w.FItems.l.length-i<f ->
   ∃c,Z142_l37 v w 0 k rec f (i:Int)=some c/\(c=0↔(v.FItems.l.length=w.FItems.l.length/\∀j,i<=j->j<v.FItems.l.length->AtR (EqV n) v w j))
 | 0,_,_,h=>by omega
 | f+1,i,h1,h2=>by
  have hm:(if ((w.FItems.l.length:Nat):Int)<((v.FItems.l.length:Nat):Int) then((w.FItems.l.length:Nat):Int) else((v.FItems.l.length:Nat):Int))=((min v.FItems.l.length w.FItems.l.length:Nat):Int):=by split<;>omega
  rw [Z142_l37,hm];by_cases hi:i<min v.FItems.l.length w.FItems.l.length
  ·have k1:i<v.FItems.l.length:=by omega
   have k2:i<w.FItems.l.length:=by omega
   have x1:idxC v.FItems.l (i:Int)=some v.FItems.l[i]:=by unfold idxC; rw [if_pos (by omega),Int.toNat_natCast,List.getElem?_eq_getElem k1]
   have x2:idxC w.FItems.l (i:Int)=some w.FItems.l[i]:=by unfold idxC; rw [if_pos (by omega),Int.toNat_natCast,List.getElem?_eq_getElem k2]
   have ha:addC (i:Int) 1=some ((i+1:Nat):Int):=by rw [addC_ok (by omega)]; rfl
   rw [decide_eq_true (by omega:((i:Nat):Int)<((min v.FItems.l.length w.FItems.l.length:Nat):Int)),cond_true,key_eq,Option.bind_some,key_eq,Option.bind_some,show Z112 (v.FKeys.l.getD i []) (w.FKeys.l.getD i [])=some (Lib.compareBytes (v.FKeys.l.getD i []) (w.FKeys.l.getD i [])) from rfl,Option.bind_some];have hc:=cmpB_zero (v.FKeys.l.getD i []) (w.FKeys.l.getD i []);by_cases c0:Lib.compareBytes (v.FKeys.l.getD i []) (w.FKeys.l.getD i [])=0
   ·rw [decide_eq_true c0,Bool.not_true,cond_false,x1,Option.bind_some,x2,Option.bind_some];obtain⟨c,e1,e2⟩:=hrec _ (List.getElem_mem k1) _ (List.getElem_mem k2);rw [e1,Option.bind_some];by_cases c1:c=0
    ·rw [decide_eq_true c1,Bool.not_true,cond_false,ha,Option.bind_some];obtain⟨z,z1,z2⟩:=l37_spec hk hrec hl f (i+1) (by omega) (by omega);refine⟨z,z1,z2.trans ⟨fun⟨u1,u2⟩=>⟨u1,fun j j1 j2=>?_⟩,fun⟨u1,u2⟩=>⟨u1,fun j j1 j2=>u2 j (by omega) j2⟩⟩⟩;rcases Nat.lt_or_ge i j with j3|j3
     ·exact u2 j j3 j2
     ·obtain rfl:j=i:=by omega
      exact⟨hc.1 c0,_,_,List.getElem?_eq_getElem k1,List.getElem?_eq_getElem k2,e2.1 c1⟩
    ·rw [decide_eq_false c1,Bool.not_false,cond_true];refine⟨c,rfl,⟨fun h=>absurd h c1,fun⟨u1,u2⟩=>?_⟩⟩;obtain⟨_,x,y,g1,g2,g3⟩:=u2 i (Nat.le_refl _) k1;rw [List.getElem?_eq_getElem k1] at g1; rw [List.getElem?_eq_getElem k2] at g2;cases g1; cases g2;exact e2.2 g3
   ·rw [decide_eq_false c0,Bool.not_false,cond_true];refine⟨_,rfl,⟨fun h=>absurd h c0,fun⟨u1,u2⟩=>hc.2 (u2 i (Nat.le_refl _) k1).1⟩⟩
  ·rw [decide_eq_false (by omega:¬((i:Nat):Int)<((min v.FItems.l.length w.FItems.l.length:Nat):Int)),cond_false];obtain⟨c,e1,e2⟩:=cmpI ((v.FItems.l.length:Nat):Int) ((w.FItems.l.length:Nat):Int);unfold Z142_j30 Z142_j14;rw [e1,Option.bind_some,addC_ok (by omega),Option.bind_some];refine⟨c,hk c,e2.trans ⟨fun h=>⟨by omega,fun j j1 j2=>by omega⟩,fun⟨h,_⟩=>by rw [h]⟩⟩
theorem cmpV (n:Nat):∀v w:Z7,v.sz<n->v.sz<=1048576->∃c,Z142_n n v w=some c/\(c=0↔EqV n v w):=by
 induction n with
 | zero=>intro v w h; omega
 | succ n ih =>
  intro v w hn hs;have hd:=v.sz_def;have hi:Sl.sz Z7.sz v.FItems=1+(v.FItems.l.map Z7.sz).sum:=rfl;have hl:=Sl.len_le (f:=Z7.sz) v.FItems (fun x=>x.pos);obtain⟨m,hm⟩:∃m,F0=m+1+1:=⟨F0-2,by rw [F0_eq]⟩;rw [Z142_n,show Z142_l8 v w (Z142_n n) F0 0 0=Z142_l8 v w (Z142_n n) (m+1+1) 0 0 from by rw [<- hm],Z142_l8,show decide ((0:Int)<1)=true from rfl,cond_true];by_cases c1:v.FKind=w.FKind
  ·rw [decide_eq_true c1,Bool.not_true,cond_false];by_cases c2:v.FInt=w.FInt
   ·rw [decide_eq_true c2,Bool.not_true,cond_false];by_cases c3:v.FText=w.FText
    ·rw [beq_iff_eq.mpr c3,Bool.not_true,cond_false];obtain⟨c,e1,e2⟩:=l37_spec (v:=v) (w:=w) (rec:=Z142_n n) (k:=Z142_l8 v w (Z142_n n) (m+1)) (n:=n) (fun z=>by rw [Z142_l8,show decide ((1:Int)<1)=false from rfl,cond_false]; rfl)
      (fun x hx y _=>ih x y (by have:=Z7.item_lt hx; omega) (by have:=Z7.item_lt hx; omega)) (by omega) F0 0 (Nat.zero_le _) (by rw [F0_eq]; omega)
     exact⟨c,e1,e2.trans ⟨fun⟨u1,u2⟩=>⟨c1,c2,c3,u1,u2⟩,fun⟨_,_,_,u1,u2⟩=>⟨u1,u2⟩⟩⟩
    ·rw [show (v.FText==w.FText)=false from beq_eq_false_iff_ne.mpr c3,Bool.not_false,cond_true,show Z112 v.FText w.FText=some (Lib.compareBytes v.FText w.FText) from rfl,Option.bind_some];exact⟨_,rfl,⟨fun h=>absurd ((cmpB_zero _ _).1 h) c3,fun⟨_,_,h,_⟩=>absurd h c3⟩⟩
   ·obtain⟨c,e1,e2⟩:=cmpI v.FInt w.FInt;rw [decide_eq_false c2,Bool.not_false,cond_true,e1,Option.bind_some];exact⟨c,rfl,⟨fun h=>absurd (e2.1 h) c2,fun⟨_,h,_⟩=>absurd h c2⟩⟩
  ·obtain⟨c,e1,e2⟩:=cmpI v.FKind w.FKind;rw [decide_eq_false c1,Bool.not_false,cond_true,e1,Option.bind_some];exact⟨c,rfl,⟨fun h=>absurd (e2.1 h) c1,fun⟨h,_⟩=>absurd h c1⟩⟩
def vsX (v w:Z7):Bool:=(Z143_q v w).getD false
theorem vsame {v w:Z7}(hv:v.sz<=1048576):Z143_q v w=some (vsX v w)/\(vsX v w=true↔EqV F0 v w):=by
 obtain⟨c,e1,e2⟩:=cmpV F0 v w (by rw [F0_eq]; omega) hv;have e:Z143_q v w=some (decide (c=0)):=by unfold Z143_q Z142; rw [e1]; rfl
 have e':vsX v w=decide (c=0):=by unfold vsX; rw [e]; rfl
 rw [e'];exact⟨e,by rw [decide_eq_true_iff]; exact e2⟩
theorem vsX_comm {v w:Z7}(hv:v.sz<=1048576) (hw:w.sz<=1048576):vsX v w=vsX w v:=by
 rw [Bool.eq_iff_iff,(vsame hv).2,(vsame hw).2];exact⟨EqV.symm,EqV.symm⟩
end Go.Proofs

namespace Go.Proofs
open Go Go.Ab
def maxD:Nat:=1500000000000
theorem app88 {s r:Sl Z2}(h:s.l.length+r.l.length<=maxD):appC 88 s r=some ⟨s.nl&&r.l.isEmpty,s.l++r.l⟩:=by
 unfold appC; rw [if_pos];have:(s.l.length+r.l.length)*88<=1500000000000*88:=Nat.mul_le_mul_right _ h;unfold maxN; omega
def DF (o:Option Z0) (n:Bs) (s X:List Z2):Prop:=s.length+X.length<=maxD->∃nl,o=some (Z0.mk n ⟨nl,s++X⟩)
theorem DF.pure (n:Bs) (nl:Bool) (s:List Z2):DF (some (Z0.mk n ⟨nl,s⟩)) n s []:=fun _=>⟨nl,by simp⟩
theorem DF.bind {o:Option Z0}{f:Z0->Option Z0}{n m:Bs}{s X Y:List Z2}(h:DF o n s X) (hf:∀nl,DF (f (Z0.mk n ⟨nl,s++X⟩)) m (s++X) Y):DF (o.bind f) m s (X++Y):=fun hb=>by
 rw [List.length_append] at hb;obtain⟨nl,e⟩:=h (by omega);obtain⟨nl2,e2⟩:=hf nl (by rw [List.length_append]; omega);exact⟨nl2,by rw [e,Option.bind_some,e2,List.append_assoc]⟩
theorem DF.id {o:Option Z0}{n:Bs}{s X:List Z2}(h:DF o n s X):DF (o.bind fun x=>some x) n s X:=fun hb=>by
 obtain⟨nl,e⟩:=h hb;exact⟨nl,by rw [e]; rfl⟩
theorem DF.of {o:Option Z0}{n:Bs}{s X Y:List Z2}(h:DF o n s X) (e:X=Y):DF o n s Y:=e▸h
theorem add_df (n:Bs) (nl:Bool) (s:List Z2) (k:Int) (f a x y:Bs):DF (Z13_q (Z0.mk n ⟨nl,s⟩) k f a x y) n s [Z2.mk k n f a x y]:=fun hb=>by
 unfold Z13_q;rw [app88 (s:=⟨nl,s⟩) hb,Option.bind_some];exact⟨_,rfl⟩
def prX (t:TRef):Bs:=prt t.FName t.FWraps.l
def deX (x:Z5):Bs:=bif !x.FHas then [] else wv x.FDefault
def itX (x:Z5):Bs:=bif !x.FHas then prX x.FType else prX x.FType++[32,61,32]++deX x
def saV (a b:TRef):Bool:=a.FName==b.FName&&decide (a.FWraps.l=b.FWraps.l)
structure ROk (t:TRef):Prop where
 n:t.FName.length<=1048576
 w:t.FWraps.l.length<=1048576
structure IOk (x:Z5):Prop where
 r:ROk x.FType
 s:x.FDefault.sz<=1048576
 f:x.FDefault.wf
theorem print_is {t:TRef}(h:ROk t):Z136_q t=some (prX t):=tprint4_eq h.n h.w
theorem prX_len {t:TRef}(h:ROk t):(prX t).length<=3145728:=by
 have:=prt_len (N:=t.FName) (W:=t.FWraps.l); have:=h.n; have:=h.w; unfold prX; omega
theorem def_is {x:Z5}(h:IOk x):Z12_q x=some (deX x)/\(deX x).length<=33554432:=by
 unfold Z12_q deX;cases x.FHas
 ·exact⟨rfl,Nat.zero_le _⟩
 ·rw [Bool.not_true,cond_false,cond_false,sval_eq h.s h.f];exact⟨rfl,wv_le h.s h.f⟩
theorem inp_is {x:Z5}(h:IOk x):Z19_q x=some (itX x):=by
 have h1:=prX_len h.r;have h2:=(def_is h).2;unfold Z19_q itX;rw [print_is h.r,(def_is h).1];cases x.FHas
 ·rfl
 ·rw [Bool.not_true,cond_false,cond_false,Option.bind_some,catC_ok (by simp only [List.length_cons,List.length_nil]; omega),Option.bind_some,Option.bind_some,catC_ok (by simp only [List.length_append,List.length_cons,List.length_nil]; omega),Option.bind_some]
theorem eqAux (a1:Sl Int):∀(l:List Int) (s:Nat),l.length+s=a1.l.length->Z104_q12 a1 l s=some (if l=a1.l.drop s then Sum.inl () else Sum.inr false)
 | [],s,h=>by
  rw [Z104_q12,if_pos];rw [List.drop_eq_nil_of_le]; simp at h; omega
 | x::r,s,h=>by
  simp only [List.length_cons] at h;have hs:s<a1.l.length:=by omega
  have hg:=List.getElem?_eq_getElem hs;rw [Z104_q12];simp only [Ab.on];rw [hg,Option.bind_some,eqAux a1 r (s+1) (by omega),Q.drop_of hg];generalize a1.l[s]=y;generalize a1.l.drop (s+1)=t;by_cases e:x=y
  ·subst e; simp only [decide_true,Bool.not_true,cond_false,List.cons.injEq,true_and]
  ·simp [e]
theorem same_is (a b:TRef):Z137_q a b=some (saV a b):=by
 have e:Z104_q a.FWraps b.FWraps=some (decide (a.FWraps.l=b.FWraps.l)):=by
  unfold Z104_q;by_cases h:a.FWraps.l.length=b.FWraps.l.length
  ·rw [decide_eq_true (by omega:((a.FWraps.l.length:Nat):Int)=((b.FWraps.l.length:Nat):Int)),Bool.not_true,cond_false,eqAux b.FWraps a.FWraps.l 0 (by omega),Option.bind_some,List.drop_zero];by_cases h2:a.FWraps.l=b.FWraps.l
   ·rw [if_pos h2,decide_eq_true h2]; rfl
   ·rw [if_neg h2,decide_eq_false h2]
  ·rw [decide_eq_false (by omega:¬((a.FWraps.l.length:Nat):Int)=((b.FWraps.l.length:Nat):Int)),decide_eq_false (fun h2=>h (by rw [h2]))]; rfl
 unfold Z137_q saV;rw [e];cases a.FName==b.FName<;>rfl
theorem saV_comm (a b:TRef):saV a b=saV b a:=by
 unfold saV;rw [Bool.eq_iff_iff]; simp only [Bool.and_eq_true,beq_iff_eq,decide_eq_true_eq];exact⟨fun⟨x,y⟩=>⟨x.symm,y.symm⟩,fun⟨x,y⟩=>⟨x.symm,y.symm⟩⟩
def inW (n:Bs) (K:Z1) (p:Bs->Bs×Bs) (x y:Z5):List Z2 :=
 (bif !saV x.FType y.FType then [Z2.mk K.Ftyp n (p x.FName).1 (p x.FName).2 (prX x.FType) (prX y.FType)] else []) ++
 (bif (!(x.FHas==y.FHas))||(x.FHas&&!vsX x.FDefault y.FDefault) then [Z2.mk K.Fdef n (p x.FName).1 (p x.FName).2 (deX x) (deX y)] else [])
def inG (n:Bs) (K:Z1) (p:Bs->Bs×Bs) (x:Z5):List Z2:=[Z2.mk K.Fgone n (p x.FName).1 (p x.FName).2 (itX x) []]
def inN (n:Bs) (K:Z1) (p:Bs->Bs×Bs) (x:Z5):List Z2:=[Z2.mk K.Fadd n (p x.FName).1 (p x.FName).2 [] (itX x)]
def inX (n:Bs) (K:Z1) (p:Bs->Bs×Bs) (A B:List Z5):List Z2:=dif Z5.FName (inW n K p) (inG n K p) A B++lon Z5.FName (inN n K p) B A
theorem inputI (l:List Z5) (s:Bs):Z97_q7 s l=(match l.find? (fun t=>t.FName==s) with|some t=>Sum.inr (t,true)|none=>Sum.inl ()):=by
 induction l with
 | nil=>rfl
 | cons a r ih =>
  rw [Z97_q7,List.find?_cons];simp only [Ab.on];cases a.FName==s
  ·exact ih
  ·rfl
theorem inputOf_is (t:Sl Z5) (s:Bs):(∃y,t.l.find? (fun t=>t.FName==s)=some y/\Z97_q t s=(y,true))\/(t.l.find? (fun t=>t.FName==s)=none/\(Z97_q t s).2=false):=by
 unfold Z97_q;simp only [Ab.on,inputI];cases t.l.find? (fun t=>t.FName==s) with
 | none=>exact .inr ⟨rfl,rfl⟩
 | some y=>exact .inl ⟨y,rfl,rfl⟩
theorem inputs26_df {n:Bs}{K:Z1}{p:Bs->Bs×Bs}{a4:Bs->Option (Bs×Bs)}(ha:∀s,a4 s=some (p s)){B:Sl Z5}(hB:∀y∈B.l,IOk y):∀(A:List Z5) (nl:Bool) (s:List Z2),(∀x∈A,IOk x) ->
  DF (Z18_q26m B K a4 A (Z0.mk n ⟨nl,s⟩)) n s (dif Z5.FName (inW n K p) (inG n K p) A B.l)
 | [],nl,s,_=>by rw [Z18_q26m]; exact DF.pure n nl s
 | x::r,nl,s,hA=>by
  have hx:=hA x (.head _);have ih:=fun nl s=>inputs26_df (n:=n) (K:=K) (p:=p) ha hB r nl s fun y hy=>hA y (.tail _ hy);rw [Z18_q26m];simp only [Ab.on,ha,Option.bind_some];unfold dif at ih ⊢;rw [List.flatMap_cons];refine DF.bind (n:=n) ?_ fun nl=>ih nl _;rcases inputOf_is B x.FName with ⟨y,e1,e2⟩|⟨e1,e2⟩
  ·have hy:=hB y (List.mem_of_find?_eq_some e1);rw [e1,e2];simp only [Bool.not_true,cond_false];rw [same_is,Option.bind_some];unfold inW;refine DF.bind (n:=n) ?_ fun nl=>?_
   ·cases saV x.FType y.FType
    ·rw [Bool.not_false,cond_true,cond_true,print_is hx.r,Option.bind_some,print_is hy.r,Option.bind_some];exact(add_df _ _ _ _ _ _ _ _).id
    ·exact DF.pure _ _ _
   ·rw [(vsame hx.s).1];have fin:∀b:Bool,DF (bif b then((Z12_q x).bind fun x51=>(Z12_q y).bind fun x52=>(Z13_q (Z0.mk n ⟨nl,s++bif !saV x.FType y.FType then [Z2.mk K.Ftyp n (p x.FName).1 (p x.FName).2 (prX x.FType) (prX y.FType)] else []⟩) K.Fdef (p x.FName).1 (p x.FName).2 x51 x52).bind fun x53=>some x53) else(some (Z0.mk n ⟨nl,s++bif !saV x.FType y.FType then [Z2.mk K.Ftyp n (p x.FName).1 (p x.FName).2 (prX x.FType) (prX y.FType)] else []⟩))) n (s++bif !saV x.FType y.FType then [Z2.mk K.Ftyp n (p x.FName).1 (p x.FName).2 (prX x.FType) (prX y.FType)] else [])
      (bif b then [Z2.mk K.Fdef n (p x.FName).1 (p x.FName).2 (deX x) (deX y)] else []):=by
     intro b;cases b
     ·exact DF.pure _ _ _
     ·rw [cond_true,cond_true,(def_is hx).1,Option.bind_some,(def_is hy).1,Option.bind_some];exact(add_df _ _ _ _ _ _ _ _).id
    have e3:∀{k:Bool->Option Z0},guardO (!!(x.FHas==y.FHas)&&x.FHas) (some (vsX x.FDefault y.FDefault)) false k=k ((!!(x.FHas==y.FHas)&&x.FHas)&&vsX x.FDefault y.FDefault):=by
     intro k;cases (!!(x.FHas==y.FHas)&&x.FHas)<;>rfl
    rw [e3];refine(fin _).of ?_;cases x.FHas<;>cases y.FHas<;>cases vsX x.FDefault y.FDefault<;>rfl
  ·rw [e1,e2];simp only [Bool.not_false,cond_true];rw [inp_is hx,Option.bind_some];exact(add_df _ _ _ _ _ _ _ _).id
theorem inputs6_df {n:Bs}{K:Z1}{p:Bs->Bs×Bs}{a4:Bs->Option (Bs×Bs)}(ha:∀s,a4 s=some (p s)) (B:Sl Z5):∀(A:List Z5) (nl:Bool) (s:List Z2),(∀x∈A,IOk x) ->
  DF (Z18_q6m B K a4 A (Z0.mk n ⟨nl,s⟩)) n s (lon Z5.FName (inN n K p) A B.l)
 | [],nl,s,_=>by rw [Z18_q6m]; exact DF.pure n nl s
 | x::r,nl,s,hA=>by
  have hx:=hA x (.head _);have ih:=fun nl s=>inputs6_df (n:=n) (K:=K) (p:=p) ha B r nl s fun y hy=>hA y (.tail _ hy);rw [Z18_q6m];simp only [Ab.on,ha,Option.bind_some];unfold lon at ih ⊢;rw [List.flatMap_cons];refine DF.bind (n:=n) ?_ fun nl=>ih nl _;rcases inputOf_is B x.FName with ⟨y,e1,e2⟩|⟨e1,e2⟩
  ·rw [e1,e2]; exact DF.pure _ _ _
  ·rw [e1,e2];simp only [Bool.not_false,cond_true];rw [inp_is hx,Option.bind_some];exact(add_df _ _ _ _ _ _ _ _).id
theorem inputs_df {n:Bs}{K:Z1}{p:Bs->Bs×Bs}{a4:Bs->Option (Bs×Bs)}(ha:∀s,a4 s=some (p s)){A B:Sl Z5}(hA:∀y∈A.l,IOk y) (hB:∀y∈B.l,IOk y) (nl:Bool) (s:List Z2) :
  DF (Z18_qm (Z0.mk n ⟨nl,s⟩) A B K a4) n s (inX n K p A.l B.l):=by
 unfold Z18_qm inX;refine DF.bind (inputs26_df ha hB A.l nl s hA) fun nl=>?_;simp only [Ab.on];exact(inputs6_df ha A B.l nl _ hB).id
end Go.Proofs

namespace Go.Proofs
open Go Go.Ab
structure FOk (f:Z4):Prop where
 r:ROk f.FType
 a:∀x∈f.FArgs.l,IOk x
structure TOk (t:TDef):Prop where
 f:∀x∈t.FFields.l,FOk x
 i:∀x∈t.FInputs.l,IOk x
 m:t.FMembers.l.length<=1048576
 p:SOk t.FImplements
def K7:Z1:=Z1.mk (7:Int) (8:Int) (9:Int) (10:Int)
def K13:Z1:=Z1.mk (13:Int) (14:Int) (15:Int) (16:Int)
def fdW (n:Bs) (x y:Z4):List Z2:=(bif !saV x.FType y.FType then [Z2.mk 6 n x.FName [] (prX x.FType) (prX y.FType)] else [])++inX n K7 (fun s=>(x.FName,s)) x.FArgs.l y.FArgs.l
def fdG (n:Bs) (x:Z4):List Z2:=[Z2.mk 4 n x.FName [] (prX x.FType) []]
def fdN (n:Bs) (x:Z4):List Z2:=[Z2.mk 5 n x.FName [] [] (prX x.FType)]
def fdX (n:Bs) (A B:List Z4):List Z2:=dif Z4.FName (fdW n) (fdG n) A B++lon Z4.FName (fdN n) B A
theorem fieldI (l:List Z4) (s:Bs):Z95_q7 s l=(match l.find? (fun t=>t.FName==s) with|some t=>Sum.inr (t,true)|none=>Sum.inl ()):=by
 induction l with
 | nil=>rfl
 | cons a r ih =>
  rw [Z95_q7,List.find?_cons];simp only [Ab.on];cases a.FName==s
  ·exact ih
  ·rfl
theorem fieldOf_is (t:TDef) (s:Bs):(∃y,t.FFields.l.find? (fun t=>t.FName==s)=some y/\Z95_q t s=(y,true))\/(t.FFields.l.find? (fun t=>t.FName==s)=none/\(Z95_q t s).2=false):=by
 unfold Z95_q;simp only [Ab.on,fieldI];cases t.FFields.l.find? (fun t=>t.FName==s) with
 | none=>exact .inr ⟨rfl,rfl⟩
 | some y=>exact .inl ⟨y,rfl,rfl⟩
theorem fields24_df {n:Bs}{u:TDef}(hB:∀y∈u.FFields.l,FOk y):∀(A:List Z4) (nl:Bool) (s:List Z2),(∀x∈A,FOk x) ->
  DF (Z16_q24 u A (Z0.mk n ⟨nl,s⟩)) n s (dif Z4.FName (fdW n) (fdG n) A u.FFields.l)
 | [],nl,s,_=>by rw [Z16_q24]; exact DF.pure n nl s
 | x::r,nl,s,hA=>by
  have hx:=hA x (.head _);have ih:=fun nl s=>fields24_df (n:=n) hB r nl s fun y hy=>hA y (.tail _ hy);rw [Z16_q24];simp only [Ab.on];unfold dif at ih ⊢;rw [List.flatMap_cons];refine DF.bind (n:=n) ?_ fun nl=>ih nl _;rcases fieldOf_is u x.FName with ⟨y,e1,e2⟩|⟨e1,e2⟩
  ·have hy:=hB y (List.mem_of_find?_eq_some e1);rw [e1,e2];simp only [Bool.not_true,cond_false];rw [same_is,Option.bind_some];unfold fdW;refine DF.bind (n:=n) ?_ fun nl=>?_
   ·cases saV x.FType y.FType
    ·rw [Bool.not_false,cond_true,cond_true,print_is hx.r,Option.bind_some,print_is hy.r,Option.bind_some];exact(add_df _ _ _ _ _ _ _ _).id
    ·exact DF.pure _ _ _
   ·exact(inputs_df (p:=fun s=>(x.FName,s)) (fun _=>rfl) hx.a hy.a nl _).id
  ·rw [e1,e2];simp only [Bool.not_false,cond_true];rw [print_is hx.r,Option.bind_some];exact(add_df _ _ _ _ _ _ _ _).id
theorem fields6_df {n:Bs}(u:TDef):∀(A:List Z4) (nl:Bool) (s:List Z2),(∀x∈A,FOk x) ->
  DF (Z16_q6 u A (Z0.mk n ⟨nl,s⟩)) n s (lon Z4.FName (fdN n) A u.FFields.l)
 | [],nl,s,_=>by rw [Z16_q6]; exact DF.pure n nl s
 | x::r,nl,s,hA=>by
  have hx:=hA x (.head _);have ih:=fun nl s=>fields6_df (n:=n) u r nl s fun y hy=>hA y (.tail _ hy);rw [Z16_q6];simp only [Ab.on];unfold lon at ih ⊢;rw [List.flatMap_cons];refine DF.bind (n:=n) ?_ fun nl=>ih nl _;rcases fieldOf_is u x.FName with ⟨y,e1,e2⟩|⟨e1,e2⟩
  ·rw [e1,e2]; exact DF.pure _ _ _
  ·rw [e1,e2];simp only [Bool.not_false,cond_true];rw [print_is hx.r,Option.bind_some];exact(add_df _ _ _ _ _ _ _ _).id
theorem fields_df {n:Bs}{t u:TDef}(ht:TOk t) (hu:TOk u) (nl:Bool) (s:List Z2):DF (Z16_q (Z0.mk n ⟨nl,s⟩) t u) n s (fdX n t.FFields.l u.FFields.l):=by
 unfold Z16_q fdX;refine DF.bind (fields24_df hu.f t.FFields.l nl s ht.f) fun nl=>?_;simp only [Ab.on];exact(fields6_df t u.FFields.l nl _ hu.f).id
theorem names_loop:∀(l:List Z6) (nl:Bool) (s:List Bs),(nl=true->s=[])->s.length+l.length<=2097152->∃nl',Z23_q8 l ⟨nl,s⟩=some ⟨nl',s++l.map Z6.FName⟩/\(nl'=true->s++l.map Z6.FName=[])
 | [],nl,s,h,_=>⟨nl,by rw [Z23_q8]; simp,by simpa using h⟩
 | x::r,nl,s,h,hl=>by
  simp only [List.length_cons] at hl;rw [Z23_q8];simp only [Ab.on];rw [appC_ok (by decide) (by simp only [List.length_cons,List.length_nil]; omega),Option.bind_some];obtain⟨nl',e1,e2⟩:=names_loop r (nl&&([x.FName]:List Bs).isEmpty) (s++[x.FName]) (fun e=>by simp at e) (by simp only [List.length_append,List.length_cons,List.length_nil]; omega);rw [List.append_assoc] at e1 e2;exact⟨nl',e1,e2⟩
theorem names_is {t:TDef}(h:t.FMembers.l.length<=1048576):∃nl,Z23_q t.FMembers=some ⟨nl,t.FMembers.l.map Z6.FName⟩/\SOk (⟨nl,t.FMembers.l.map Z6.FName⟩:Sl Bs):=by
 obtain⟨nl,e1,e2⟩:=names_loop t.FMembers.l true [] (fun _=>rfl) (by simp only [List.length_nil]; omega);refine⟨nl, ?_, ?_, ?_⟩
 ·unfold Z23_q;rw [show (Sl.nil:Sl Bs)=⟨true,[]⟩ from rfl,e1,Option.bind_some]; rfl
 ·simpa using e2
 ·simp only [List.length_map]; omega
def mis (a b:List Bs):List Bs:=a.filter fun s=>!b.contains s
theorem indexX (s:Bs) (l:List Bs):∀n:Nat,(l.contains s=false->Z105_q6 s l n=Sum.inl ())/\(l.contains s=true->∃m:Nat,Z105_q6 s l n=Sum.inr (m:Int)):=by
 induction l with
 | nil=>intro n; exact⟨fun _=>rfl,fun h=>by simp at h⟩
 | cons a r ih =>
  intro n;rw [Z105_q6];simp only [Ab.on,List.contains_cons];cases s==a
  ·simp only [Bool.false_or,cond_false]; exact ih (n+1)
  ·simp only [Bool.true_or,cond_true]; exact⟨fun h=>by simp at h,fun _=>⟨n,rfl⟩⟩
theorem contains_is (a:Sl Bs) (s:Bs):Z101_q a s=a.l.contains s:=by
 unfold Z101_q Z105_q;simp only [Ab.on];have h:=indexX s a.l 0;cases hc:a.l.contains s
 ·rw [h.1 hc]; rfl
 ·obtain⟨m,e⟩:=h.2 hc;rw [e]; exact decide_eq_true (by simp)
theorem clone_is {a:Sl Bs}(h:SOk a):∃nl,Z100_q a=some ⟨nl,a.l⟩:=by
 unfold Z100_q;cases hn:a.nl
 ·rw [cond_false,appC_ok (by decide) (by have:=h.2; simp only [List.length_nil]; omega),Option.bind_some]; exact⟨_,rfl⟩
 ·rw [cond_true,h.1 hn]; exact⟨true,rfl⟩
theorem missing_is {a:Sl Bs}(h:SOk a) (b:Sl Bs):∃nl,Z21_q a b=some ⟨nl,mis a.l b.l⟩:=by
 obtain⟨nl,e⟩:=clone_is h;unfold Z21_q;rw [e,Option.bind_some,Option.bind_some];refine⟨nl, ?_⟩;have h2:(fun x=>!((fun y0=>Z22 y0 b) x).getD false)=fun s=>!b.l.contains s:=by
  funext x
  show (!((Z22 x b).getD false))=_;rw [Z22_eq,Option.getD_some];unfold Z22_q;simp only [Ab.on,contains_is]
 unfold delL mis;rw [h2]
theorem mem57_df {n:Bs}:∀(l:List Bs) (nl:Bool) (s:List Z2),DF (Z14_q57 l (Z0.mk n ⟨nl,s⟩)) n s (l.map fun x=>Z2.mk 11 n x [] [] [])
 | [],nl,s=>by rw [Z14_q57]; exact DF.pure n nl s
 | x::r,nl,s=>by
  rw [Z14_q57];simp only [Ab.on];exact DF.bind (X:=[_]) (add_df n nl s _ _ _ _ _) fun nl=>mem57_df r nl _
theorem mem44_df {n:Bs}:∀(l:List Bs) (nl:Bool) (s:List Z2),DF (Z14_q44 l (Z0.mk n ⟨nl,s⟩)) n s (l.map fun x=>Z2.mk 12 n x [] [] [])
 | [],nl,s=>by rw [Z14_q44]; exact DF.pure n nl s
 | x::r,nl,s=>by
  rw [Z14_q44];simp only [Ab.on];exact DF.bind (X:=[_]) (add_df n nl s _ _ _ _ _) fun nl=>mem44_df r nl _
theorem mem31_df {n:Bs}:∀(l:List Bs) (nl:Bool) (s:List Z2),DF (Z14_q31 l (Z0.mk n ⟨nl,s⟩)) n s (l.map fun x=>Z2.mk 17 n [] [] x [])
 | [],nl,s=>by rw [Z14_q31]; exact DF.pure n nl s
 | x::r,nl,s=>by
  rw [Z14_q31];simp only [Ab.on];exact DF.bind (X:=[_]) (add_df n nl s _ _ _ _ _) fun nl=>mem31_df r nl _
theorem mem18_df {n:Bs}:∀(l:List Bs) (nl:Bool) (s:List Z2),DF (Z14_q18 l (Z0.mk n ⟨nl,s⟩)) n s (l.map fun x=>Z2.mk 18 n [] [] [] x)
 | [],nl,s=>by rw [Z14_q18]; exact DF.pure n nl s
 | x::r,nl,s=>by
  rw [Z14_q18];simp only [Ab.on];exact DF.bind (X:=[_]) (add_df n nl s _ _ _ _ _) fun nl=>mem18_df r nl _
def nam (t:TDef):List Bs:=t.FMembers.l.map Z6.FName
def dfX (n:Bs) (x y:TDef):List Z2 :=
 fdX n x.FFields.l y.FFields.l++((mis (nam x) (nam y)).map (fun s=>Z2.mk 11 n s [] [] [])++((mis (nam y) (nam x)).map (fun s=>Z2.mk 12 n s [] [] [])++(inX n K13 (fun s=>(s,[])) x.FInputs.l y.FInputs.l ++
  ((mis x.FImplements.l y.FImplements.l).map (fun s=>Z2.mk 17 n [] [] s [])++(mis y.FImplements.l x.FImplements.l).map (fun s=>Z2.mk 18 n [] [] [] s)))))
theorem def_df {n:Bs}{t u:TDef}(ht:TOk t) (hu:TOk u) (nl:Bool) (s:List Z2):DF (Z14_q (Z0.mk n ⟨nl,s⟩) t u) n s (dfX n t u):=by
 obtain⟨n1,e1,o1⟩:=names_is ht.m;obtain⟨n2,e2,o2⟩:=names_is hu.m;obtain⟨n3,e3⟩:=missing_is o1 ⟨n2,u.FMembers.l.map Z6.FName⟩;obtain⟨n4,e4⟩:=missing_is o2 ⟨n1,t.FMembers.l.map Z6.FName⟩;obtain⟨n5,e5⟩:=missing_is ht.p u.FImplements;obtain⟨n6,e6⟩:=missing_is hu.p t.FImplements;unfold Z14_q dfX;refine DF.bind (fields_df ht hu nl s) fun nl=>?_;rw [e1,Option.bind_some,e2,Option.bind_some,e3,Option.bind_some]
 simp only [Ab.on];refine DF.bind (mem57_df _ nl _) fun nl=>?_;rw [e4,Option.bind_some];refine DF.bind (mem44_df _ nl _) fun nl=>?_;refine DF.bind (inputs_df (p:=fun s=>(s,[])) (fun s=>rfl) ht.i hu.i nl _) fun nl=>?_;rw [e5,Option.bind_some];refine DF.bind (mem31_df _ nl _) fun nl=>?_;rw [e6,Option.bind_some];exact(mem18_df _ nl _).id
def tyG (t:TDef):List Z2:=[Z2.mk 1 t.FName [] [] (Z20_q t.FKind) []]
def tyN (t:TDef):List Z2:=[Z2.mk 2 t.FName [] [] [] (Z20_q t.FKind)]
def tyW (x y:TDef):List Z2:=bif !decide (x.FKind=y.FKind) then [Z2.mk 3 x.FName [] [] (Z20_q x.FKind) (Z20_q y.FKind)] else dfX x.FName x y
def diffX (A B:List TDef):List Z2:=lon TDef.FName tyG A B++(prs TDef.FName tyW A B++lon TDef.FName tyN B A)
theorem findI (l:List TDef) (s:Bs):Z96_q7 s l=(match l.find? (fun t=>t.FName==s) with|some t=>Sum.inr (t,true)|none=>Sum.inl ()):=by
 induction l with
 | nil=>rfl
 | cons a r ih =>
  rw [Z96_q7,List.find?_cons];simp only [Ab.on];cases a.FName==s
  ·exact ih
  ·rfl
theorem find_is (d:TDoc) (s:Bs):(∃y,d.FDefs.l.find? (fun t=>t.FName==s)=some y/\Z96_q d s=(y,true))\/(d.FDefs.l.find? (fun t=>t.FName==s)=none/\(Z96_q d s).2=false):=by
 unfold Z96_q;simp only [Ab.on,findI];cases d.FDefs.l.find? (fun t=>t.FName==s) with
 | none=>exact .inr ⟨rfl,rfl⟩
 | some y=>exact .inl ⟨y,rfl,rfl⟩
def DA (o:Option Z0) (s X:List Z2):Prop:=s.length+X.length<=maxD->∃n nl,o=some (Z0.mk n ⟨nl,s++X⟩)
theorem DA.pure (n:Bs) (nl:Bool) (s:List Z2):DA (some (Z0.mk n ⟨nl,s⟩)) s []:=fun _=>⟨n,nl,by simp⟩
theorem DA.bind {o:Option Z0}{f:Z0->Option Z0}{s X Y:List Z2}(h:DA o s X) (hf:∀n nl,DA (f (Z0.mk n ⟨nl,s++X⟩)) (s++X) Y):DA (o.bind f) s (X++Y):=fun hb=>by
 rw [List.length_append] at hb;obtain⟨n,nl,e⟩:=h (by omega);obtain⟨m,nl2,e2⟩:=hf n nl (by rw [List.length_append]; omega);exact⟨m,nl2,by rw [e,Option.bind_some,e2,List.append_assoc]⟩
theorem DF.da {o:Option Z0}{n:Bs}{s X:List Z2}(h:DF o n s X):DA o s X:=fun hb=>by
 obtain⟨nl,e⟩:=h hb;exact⟨n,nl,e⟩
theorem diff56_da (b:TDoc):∀(A:List TDef) (n:Bs) (nl:Bool) (s:List Z2),DA (Z10_q56 b A (Z0.mk n ⟨nl,s⟩)) s (lon TDef.FName tyG A b.FDefs.l)
 | [],n,nl,s=>by rw [Z10_q56]; exact DA.pure n nl s
 | x::r,n,nl,s=>by
  have ih:=fun n nl s=>diff56_da b r n nl s;rw [Z10_q56];simp only [Ab.on];unfold lon at ih ⊢;rw [List.flatMap_cons];refine DA.bind ?_ fun n nl=>ih n nl _;rcases find_is b x.FName with ⟨y,e1,e2⟩|⟨e1,e2⟩
  ·rw [e1,e2]; exact DA.pure _ _ _
  ·rw [e1,e2];exact(add_df _ _ _ _ _ _ _ _).id.da
theorem diff14_da (b:TDoc):∀(A:List TDef) (n:Bs) (nl:Bool) (s:List Z2),DA (Z10_q14 b A (Z0.mk n ⟨nl,s⟩)) s (lon TDef.FName tyN A b.FDefs.l)
 | [],n,nl,s=>by rw [Z10_q14]; exact DA.pure n nl s
 | x::r,n,nl,s=>by
  have ih:=fun n nl s=>diff14_da b r n nl s;rw [Z10_q14];simp only [Ab.on];unfold lon at ih ⊢;rw [List.flatMap_cons];refine DA.bind ?_ fun n nl=>ih n nl _;rcases find_is b x.FName with ⟨y,e1,e2⟩|⟨e1,e2⟩
  ·rw [e1,e2]; exact DA.pure _ _ _
  ·rw [e1,e2];exact(add_df _ _ _ _ _ _ _ _).id.da
theorem diff33_da {b:TDoc}(hb:∀t∈b.FDefs.l,TOk t):∀(A:List TDef) (n:Bs) (nl:Bool) (s:List Z2),(∀t∈A,TOk t)->DA (Z10_q33 b A (Z0.mk n ⟨nl,s⟩)) s (prs TDef.FName tyW A b.FDefs.l)
 | [],n,nl,s,_=>by rw [Z10_q33]; exact DA.pure n nl s
 | x::r,n,nl,s,hA=>by
  have ih:=fun n nl s=>diff33_da hb r n nl s fun y hy=>hA y (.tail _ hy);rw [Z10_q33];simp only [Ab.on];unfold prs at ih ⊢;rw [List.flatMap_cons];refine DA.bind ?_ fun n nl=>ih n nl _;rcases find_is b x.FName with ⟨y,e1,e2⟩|⟨e1,e2⟩
  ·rw [e1,e2];simp only [Bool.not_true,cond_false];unfold tyW;cases decide (x.FKind=y.FKind)
   ·exact(add_df _ _ _ _ _ _ _ _).id.da
   ·exact(def_df (hA x (.head _)) (hb y (List.mem_of_find?_eq_some e1)) nl s).id.da
  ·rw [e1,e2]; exact DA.pure _ _ _
theorem diff_is {a b:TDoc}(ha:∀t∈a.FDefs.l,TOk t) (hb:∀t∈b.FDefs.l,TOk t) (hl:(diffX a.FDefs.l b.FDefs.l).length<=maxD):∃nl,Z10_q a b=some ⟨nl,diffX a.FDefs.l b.FDefs.l⟩:=by
 have h:DA (Option.bind (Z10_q56 b a.FDefs.l (Z0.mk ([]:Bs) (Sl.nil:Sl Z2))) fun y58=>on (y58) fun y6=>Option.bind (Z10_q33 b a.FDefs.l y6) fun y35=>on (y35) fun y8=>Z10_q14 a b.FDefs.l y8) [] (diffX a.FDefs.l b.FDefs.l):=by
  unfold diffX;refine DA.bind (diff56_da b a.FDefs.l [] true []) fun n nl=>?_;simp only [Ab.on];refine DA.bind (diff33_da hb a.FDefs.l n nl _ ha) fun n nl=>?_;exact diff14_da a b.FDefs.l n nl _
 obtain⟨n,nl,e⟩:=h (by simpa using hl);refine⟨nl, ?_⟩;have e':Z10_q a b=(Option.bind (Z10_q56 b a.FDefs.l (Z0.mk ([]:Bs) (Sl.nil:Sl Z2))) fun y58=>on (y58) fun y6=>Option.bind (Z10_q33 b a.FDefs.l y6) fun y35=>on (y35) fun y8=>Z10_q14 a b.FDefs.l y8).bind fun z=>some z.Fout:=by
  unfold Z10_q;simp only [Ab.on,Option.bind_assoc]
 rw [e',e]; rfl
end Go.Proofs

namespace Go.Proofs
open Go Go.Ab
def swK (k:Int):Int:=if k=1\/k=11\/k=13\/k=17\/k=4\/k=7 then k+1 else if k=2\/k=12\/k=14\/k=18\/k=5\/k=8 then k-1 else k
def opX (c:Z2):Z2:=Z2.mk (swK c.FKind) c.FType c.FField c.FArg c.FTo c.FFrom
structure KOk (K:Z1):Prop where
 g:swK K.Fgone=K.Fadd
 a:swK K.Fadd=K.Fgone
 t:swK K.Ftyp=K.Ftyp
 d:swK K.Fdef=K.Fdef
theorem k7_ok:KOk K7:=⟨rfl,rfl,rfl,rfl⟩
theorem k13_ok:KOk K13:=⟨rfl,rfl,rfl,rfl⟩
theorem inW_op {n:Bs}{K:Z1}(hK:KOk K) (p:Bs->Bs×Bs){x y:Z5}(hx:IOk x) (hy:IOk y) (h:y.FName=x.FName):(inW n K p x y).map opX=inW n K p y x:=by
 unfold inW;rw [h,saV_comm y.FType x.FType,vsX_comm hy.s hx.s,List.map_append]
 congr 1
 ·cases saV x.FType y.FType
  ·rw [Bool.not_false,cond_true,cond_true,List.map_singleton]; unfold opX; rw [hK.t]
  ·rfl
 ·have e:((!(y.FHas==x.FHas))||(y.FHas&&!vsX x.FDefault y.FDefault))=((!(x.FHas==y.FHas))||(x.FHas&&!vsX x.FDefault y.FDefault)):=by
   cases x.FHas<;>cases y.FHas<;>rfl
  rw [e];cases ((!(x.FHas==y.FHas))||(x.FHas&&!vsX x.FDefault y.FDefault))
  ·rfl
  ·rw [cond_true,cond_true,List.map_singleton]; unfold opX; rw [hK.d]
theorem inX_op {n:Bs}{K:Z1}(hK:KOk K) (p:Bs->Bs×Bs){A B:List Z5}(hA:∀x∈A,IOk x) (hB:∀x∈B,IOk x) (dA:Dst Z5.FName A) (dB:Dst Z5.FName B):((inX n K p A B).map opX).Perm (inX n K p B A):=by
 unfold inX;refine dif_op dA dB (fun x=>?_) (fun x=>?_) fun x hx y hy h=>.of_eq (inW_op hK p (hA x hx) (hB y hy) h)
 ·unfold inG inN; rw [List.map_singleton]; unfold opX; rw [hK.g]
 ·unfold inG inN; rw [List.map_singleton]; unfold opX; rw [hK.a]
structure DDst (t:TDef):Prop where
 f:Dst Z4.FName t.FFields.l
 a:∀x∈t.FFields.l,Dst Z5.FName x.FArgs.l
 i:Dst Z5.FName t.FInputs.l
theorem fdX_op {n:Bs}{t u:TDef}(ht:TOk t) (hu:TOk u) (dt:DDst t) (du:DDst u):((fdX n t.FFields.l u.FFields.l).map opX).Perm (fdX n u.FFields.l t.FFields.l):=by
 unfold fdX;refine dif_op dt.f du.f (fun x=>rfl) (fun x=>rfl) fun x hx y hy h=>?_;unfold fdW;rw [List.map_append,h,saV_comm y.FType x.FType];refine List.Perm.append (.of_eq ?_) (inX_op k7_ok _ (ht.f x hx).a (hu.f y hy).a (dt.a x hx) (du.a y hy));cases saV x.FType y.FType<;>rfl
theorem dfX_op {n:Bs}{t u:TDef}(ht:TOk t) (hu:TOk u) (dt:DDst t) (du:DDst u):((dfX n t u).map opX).Perm (dfX n u t):=by
 unfold dfX;simp only [List.map_append];refine(fdX_op ht hu dt du).append ?_;rw [<- List.append_assoc,<- List.append_assoc ((mis (nam u) (nam t)).map _)];refine List.Perm.append ?_ (List.Perm.append (inX_op k13_ok _ ht.i hu.i dt.i du.i) ?_)
 ·rw [List.map_map,List.map_map]; exact List.perm_append_comm
 ·rw [List.map_map,List.map_map]; exact List.perm_append_comm
theorem diffX_op {A B:List TDef}(hA:∀t∈A,TOk t) (hB:∀t∈B,TOk t) (dA:Dst TDef.FName A) (dB:Dst TDef.FName B) (eA:∀t∈A,DDst t) (eB:∀t∈B,DDst t):((diffX A B).map opX).Perm (diffX B A):=by
 unfold diffX;rw [List.map_append,List.map_append,map_lon,map_lon,map_prs];have h:(prs TDef.FName (fun x y=>(tyW x y).map opX) A B).Perm (prs TDef.FName tyW B A):=by
  refine prs_perm dA dB fun x hx y hy h=>?_;unfold tyW;rw [h];by_cases hk:x.FKind=y.FKind
  ·rw [decide_eq_true hk,decide_eq_true hk.symm];exact dfX_op (hA x hx) (hB y hy) (eA x hx) (eB y hy)
  ·rw [decide_eq_false hk,decide_eq_false fun e=>hk e.symm];exact .refl _
 rw [show (fun x=>(tyG x).map opX)=tyN from rfl,show (fun x=>(tyN x).map opX)=tyG from rfl];exact List.perm_append_comm.trans ((List.perm_append_comm.append_right _).trans ((List.Perm.of_eq (List.append_assoc _ _ _)).trans ((h.append_right _).append_left _)))
theorem inX_len (n:Bs) (K:Z1) (p:Bs->Bs×Bs){A B:List Z5}(dA:Dst Z5.FName A) (dB:Dst Z5.FName B):(inX n K p A B).length<=2*A.length+B.length:=by
 have h:=dif_len (w:=inW n K p) (g:=inG n K p) (n:=inN n K p) (f:=fun _=>2) (e:=fun _=>1) dA dB (fun x _ y _=>by
  unfold inW; rw [List.length_append];have h1:(bif !saV x.FType y.FType then [Z2.mk K.Ftyp n (p x.FName).1 (p x.FName).2 (prX x.FType) (prX y.FType)] else []).length<=1:=by cases saV x.FType y.FType<;>simp
  have h2:(bif (!(x.FHas==y.FHas))||(x.FHas&&!vsX x.FDefault y.FDefault) then [Z2.mk K.Fdef n (p x.FName).1 (p x.FName).2 (deX x) (deX y)] else []).length<=1:=by cases ((!(x.FHas==y.FHas))||(x.FHas&&!vsX x.FDefault y.FDefault))<;>simp
  omega) (fun _ _=>by unfold inG; simp) (fun _ _=>by unfold inN; simp)
 have h2:∀(c:Nat) (l:List Z5),(l.map fun _=>c).sum=c*l.length:=by
  intro c l;induction l with
  | nil=>rfl
  | cons a r ih=>simp only [List.map_cons,List.sum_cons,List.length_cons,ih,Nat.mul_succ]; omega
 rw [h2,h2] at h;unfold inX; omega
def fw (f:Z4):Nat:=1+f.FArgs.l.length
def tw (t:TDef):Nat:=(t.FFields.l.map fw).sum+t.FMembers.l.length+t.FInputs.l.length+t.FImplements.l.length
def dw (A:List TDef):Nat:=(A.map fun t=>1+tw t).sum
theorem mulS {α:Type}(c:Nat) (f:α->Nat) (l:List α):(l.map fun x=>c*f x).sum=c*(l.map f).sum:=by
 induction l with
 | nil=>simp
 | cons a r ih=>simp only [List.map_cons,List.sum_cons,ih,Nat.mul_add]
theorem fdX_len (n:Bs){t u:TDef}(dt:DDst t) (du:DDst u):(fdX n t.FFields.l u.FFields.l).length<=2*(t.FFields.l.map fw).sum+(u.FFields.l.map fw).sum:=by
 have h:=dif_len (w:=fdW n) (g:=fdG n) (n:=fdN n) (f:=fun x=>2*fw x) (e:=fw) dt.f du.f (fun x hx y hy=>by
  unfold fdW; rw [List.length_append];have h1:(bif !saV x.FType y.FType then [Z2.mk 6 n x.FName [] (prX x.FType) (prX y.FType)] else []).length<=1:=by cases saV x.FType y.FType<;>simp
  have h2:=inX_len n K7 (fun s=>(x.FName,s)) (dt.a x hx) (du.a y hy);unfold fw; omega) (fun _ _=>by unfold fdG fw; simp; omega) (fun _ _=>by unfold fdN fw; simp)
 rw [mulS] at h;unfold fdX; omega
theorem mis_len (a b:List Bs):(mis a b).length<=a.length:=List.length_filter_le _ _
theorem dfX_len (n:Bs){t u:TDef}(dt:DDst t) (du:DDst u):(dfX n t u).length<=2*tw t+tw u:=by
 have h1:=fdX_len n dt du;have h2:=inX_len n K13 (fun s=>(s,[])) dt.i du.i;have h3:=mis_len (nam t) (nam u);have h4:=mis_len (nam u) (nam t);have h5:=mis_len t.FImplements.l u.FImplements.l;have h6:=mis_len u.FImplements.l t.FImplements.l;have h7:(nam t).length=t.FMembers.l.length:=List.length_map _;have h8:(nam u).length=u.FMembers.l.length:=List.length_map _;unfold dfX tw;simp only [List.length_append,List.length_map]
 omega
theorem diffX_len {A B:List TDef}(dA:Dst TDef.FName A) (dB:Dst TDef.FName B) (eA:∀t∈A,DDst t) (eB:∀t∈B,DDst t):(diffX A B).length<=2*dw A+dw B:=by
 have h:=dif_len (w:=tyW) (g:=tyG) (n:=tyN) (f:=fun x=>2*(1+tw x)) (e:=fun x=>1+tw x) dA dB (fun x hx y hy=>by
  unfold tyW;have:=dfX_len x.FName (eA x hx) (eB y hy);cases decide (x.FKind=y.FKind)
  ·simp; omega
  ·simp only [Bool.not_true,cond_false]; omega) (fun _ _=>by unfold tyG; simp; omega) (fun _ _=>by unfold tyN; simp)
 rw [mulS] at h;have h2:=(dif_split TDef.FName tyW tyG A B).length_eq;unfold diffX dw;rw [List.length_append] at h h2;simp only [List.length_append];omega
end Go.Proofs

namespace Go.Proofs
open Go Go.Ab
theorem Gr.two {o:Option Int}{k:Int->Option Int}{s:Int}{a b c:Nat}(h:Gr o 0 a) (hs:0<=s/\s+a<=1099511627776) (hc:a+b<=c) (hk:∀r,s<=r->r<=s+a->Gr (k r) r b):Gr (o.bind fun x=>(addC s x).bind k) s c:=by
 obtain⟨x,e,h1,h2⟩:=h;rw [e,Option.bind_some];exact Gr.bind (a:=a) (b:=b) (Gr.add (by omega) hs) hc hk
theorem args_w (a1:Int) (h7:TDir):∀(l:List TArg) (s:Int),(∀x∈l,x.sz<=1048576)->0<=s->s+(l.map TArg.sz).sum<=1073741824->Gr (Z62_q19 a1 h7 l s) s (l.map TArg.sz).sum
 | [],s,_,_,_=>Gr.refl _ _
 | a::r,s,hx,h0,h=>by
  simp only [List.map_cons,List.sum_cons] at h ⊢;have hd:=a.sz_def;have hp:=Bs.sz_pos a.FName;have hxa:=hx a (by simp);rw [Z62_q19];cases decide (s<=a1) with
  | false=>exact Gr.refl _ _
  | true =>
   simp only [cond_true,Ab.on];refine Gr.bind (a:=1) (b:=a.FValue.sz+(r.map TArg.sz).sum) (Gr.add (by omega) (by omega)) (by omega) fun x h1 h2=>?_;exact Gr.two (b:=(r.map TArg.sz).sum) (value_W a1 a.FValue (by omega)) (by omega) (by omega) fun y h3 h4=>args_w a1 h7 r y (fun z hz=>hx z (by simp [hz])) (by omega) (by omega)
theorem dirs_loop_w (a1:Int):∀(l:List TDir) (s:Int),(∀x∈l,x.sz<=1048576)->0<=s->s+(l.map TDir.sz).sum<=1073741824->Gr (Z62_q7 a1 l s) s (l.map TDir.sz).sum
 | [],s,_,_,_=>Gr.refl _ _
 | a::r,s,hx,h0,h=>by
  simp only [List.map_cons,List.sum_cons] at h ⊢;have hd:=a.sz_def;have hp:=Bs.sz_pos a.FName;have hi:Sl.sz TArg.sz a.FArgs=1+(a.FArgs.l.map TArg.sz).sum:=rfl;have hxa:=hx a (by simp);rw [Z62_q7];cases decide (s<=a1) with
  | false=>exact Gr.refl _ _
  | true =>
   simp only [cond_true,Ab.on];refine Gr.bind (a:=1) (b:=(a.FArgs.l.map TArg.sz).sum+(r.map TDir.sz).sum) (Gr.add (by omega) (by omega)) (by omega) fun x h1 h2=>?_;exact Gr.bind (b:=(r.map TDir.sz).sum) (args_w a1 a a.FArgs.l x (fun z hz=>by have:=TDir.arg_le hz; omega) (by omega) (by omega)) (by omega) fun y h3 h4=>dirs_loop_w a1 r y (fun z hz=>hx z (by simp [hz])) (by omega) (by omega)
theorem dirs_w (a1:Int) (s:Sl TDir) (h:Sl.sz TDir.sz s<=1048576):Gr (Z62_q s a1) 0 (Sl.sz TDir.sz s):=by
 have hi:Sl.sz TDir.sz s=1+(s.l.map TDir.sz).sum:=rfl;obtain⟨r,e,h1,h2⟩:=dirs_loop_w a1 s.l 0 (fun x hx=>by have:=Sl.mem_le (f:=TDir.sz) hx; omega) (by omega) (by omega);unfold Z62_q; rw [e]; exact⟨r,rfl,h1,by omega⟩
def Gw (o:Option Int) (s:Int) (b w:Nat):Prop:=∃r,o=some r/\s<=r/\r<=s+b/\(r<=600->s+w<=r)
theorem Gr.w {o:Option Int}{s:Int}{b:Nat}(h:Gr o s b):Gw o s b 0:=by
 obtain⟨r,e,h1,h2⟩:=h;exact⟨r,e,h1,h2,fun _=>by omega⟩
theorem Gw.none (s:Int) (b:Nat):Gw (some s) s b 0:=⟨s,rfl,by omega,by omega,fun _=>by omega⟩
theorem Gw.stop {s:Int}(b w:Nat) (h:¬s<=600):Gw (some s) s b w:=⟨s,rfl,by omega,by omega,fun h2=>absurd h2 h⟩
theorem Gw.bind {o:Option Int}{k:Int->Option Int}{s:Int}{a b c w1 w2 w:Nat}(h:Gw o s a w1) (hc:a+b<=c) (hw:w=w1+w2) (hk:∀r,s<=r->r<=s+a->Gw (k r) r b w2):Gw (o.bind k) s c w:=by
 obtain⟨r,e,h1,h2,h3⟩:=h;obtain⟨r2,e2,h4,h5,h6⟩:=hk r h1 h2;exact⟨r2,by rw [e]; exact e2,by omega,by omega,fun h=>by have:=h3 (by omega); have:=h6 h; omega⟩
theorem Gw.add {x s:Int}{b w:Nat}(hx:(w:Int)<=x/\x<=b) (hs:0<=s/\s+b<=1099511627776):Gw (addC s x) s b w:=⟨s+x,addC_ok (by omega),by omega,by omega,fun _=>by omega⟩
theorem Gw.two {o:Option Int}{k:Int->Option Int}{s:Int}{a b c w1 w2 w:Nat}(h:Gw o 0 a w1) (hs:0<=s/\s+a<=1099511627776) (hc:a+b<=c) (hw:w=w1+w2) (hk:∀r,s<=r->r<=s+a->Gw (k r) r b w2):Gw (o.bind fun x=>(addC s x).bind k) s c w:=by
 obtain⟨x,e,h1,h2,h3⟩:=h;rw [e,Option.bind_some,addC_ok (by omega),Option.bind_some];obtain⟨r2,e2,h4,h5,h6⟩:=hk (s+x) (by omega) (by omega);exact⟨r2,e2,by omega,by omega,fun h=>by have:=h3 (by omega); have:=h6 h; omega⟩
theorem inputs_loop_g:∀(l:List Z5) (s:Int),(∀x∈l,x.sz<=1048576)->0<=s->s+(l.map Z5.sz).sum<=1073741824->Gw (Z63_q7 600 l s) s (l.map Z5.sz).sum l.length
 | [],s,_,_,_=>Gw.none _ _
 | a::r,s,hx,h0,h=>by
  simp only [List.map_cons,List.sum_cons] at h ⊢;have hd:=a.sz_def;have hp:=Bs.sz_pos a.FName;have hw:=TRef.wraps_le a.FType;have hxa:=hx a (by simp);rw [Z63_q7];by_cases hs:s<=600
  ·rw [decide_eq_true hs];simp only [cond_true,Ab.on];refine Gw.bind (a:=1) (b:=a.FType.FWraps.l.length+a.FDefault.sz+Sl.sz TDir.sz a.FDirs+(r.map Z5.sz).sum) (w1:=1) (w2:=r.length) (Gw.add (by omega) (by omega)) (by omega) (by simp; omega) fun x h1 h2=>?_;refine Gw.bind (a:=a.FType.FWraps.l.length) (b:=a.FDefault.sz+Sl.sz TDir.sz a.FDirs+(r.map Z5.sz).sum) (w1:=0) (w2:=r.length) (Gw.add (by omega) (by omega)) (by omega) (by omega) fun y h3 h4=>?_
   refine Gw.two (b:=Sl.sz TDir.sz a.FDirs+(r.map Z5.sz).sum) (w2:=r.length) (value_W 600 a.FDefault (by omega)).w (by omega) (by omega) (by omega) fun z h5 h6=>?_;exact Gw.two (b:=(r.map Z5.sz).sum) (w2:=r.length) (dirs_w 600 a.FDirs (by omega)).w (by omega) (by omega) (by omega) fun q h7 h8=>inputs_loop_g r q (fun z hz=>hx z (by simp [hz])) (by omega) (by omega)
  ·rw [decide_eq_false hs]; exact Gw.stop _ _ hs
theorem inputs_g (s:Sl Z5) (h:Sl.sz Z5.sz s<=1048576):Gw (Z63_q s 600) 0 (Sl.sz Z5.sz s) s.l.length:=by
 have hi:Sl.sz Z5.sz s=1+(s.l.map Z5.sz).sum:=rfl;obtain⟨r,e,h1,h2,h3⟩:=inputs_loop_g s.l 0 (fun x hx=>by have:=Sl.mem_le (f:=Z5.sz) hx; omega) (by omega) (by omega);unfold Z63_q; rw [e]; exact⟨r,rfl,h1,by omega,h3⟩
theorem fields_g:∀(l:List Z4) (s:Int),(∀x∈l,x.sz<=1048576)->0<=s->s+(l.map Z4.sz).sum<=1073741824->Gw (Z54_q41 600 l s) s (l.map Z4.sz).sum (l.map fw).sum
 | [],s,_,_,_=>Gw.none _ _
 | a::r,s,hx,h0,h=>by
  simp only [List.map_cons,List.sum_cons] at h ⊢;have hd:=a.sz_def;have hp:=Bs.sz_pos a.FName;have hw:=TRef.wraps_le a.FType;have hxa:=hx a (by simp);have hfw:fw a=1+a.FArgs.l.length:=rfl;rw [Z54_q41];by_cases hs:s<=600
  ·rw [decide_eq_true hs];simp only [cond_true,Ab.on];refine Gw.bind (a:=1) (b:=a.FType.FWraps.l.length+Sl.sz Z5.sz a.FArgs+Sl.sz TDir.sz a.FDirs+(r.map Z4.sz).sum) (w1:=1) (w2:=a.FArgs.l.length+(r.map fw).sum) (Gw.add (by omega) (by omega)) (by omega) (by omega) fun x h1 h2=>?_;refine Gw.bind (a:=a.FType.FWraps.l.length) (b:=Sl.sz Z5.sz a.FArgs+Sl.sz TDir.sz a.FDirs+(r.map Z4.sz).sum) (w1:=0) (w2:=a.FArgs.l.length+(r.map fw).sum) (Gw.add (by omega) (by omega)) (by omega) (by omega) fun y h3 h4=>?_
   refine Gw.two (b:=Sl.sz TDir.sz a.FDirs+(r.map Z4.sz).sum) (w2:=(r.map fw).sum) (inputs_g a.FArgs (by omega)) (by omega) (by omega) (by omega) fun z h5 h6=>?_;exact Gw.two (b:=(r.map Z4.sz).sum) (w2:=(r.map fw).sum) (dirs_w 600 a.FDirs (by omega)).w (by omega) (by omega) (by omega) fun q h7 h8=>fields_g r q (fun z hz=>hx z (by simp [hz])) (by omega) (by omega)
  ·rw [decide_eq_false hs]; exact Gw.stop _ _ hs
theorem members_g:∀(l:List Z6) (s:Int),(∀x∈l,x.sz<=1048576)->0<=s->s+(l.map Z6.sz).sum<=1073741824->Gw (Z54_q28 600 l s) s (l.map Z6.sz).sum l.length
 | [],s,_,_,_=>Gw.none _ _
 | a::r,s,hx,h0,h=>by
  simp only [List.map_cons,List.sum_cons] at h ⊢;have hd:=a.sz_def;have hp:=Bs.sz_pos a.FName;have hxa:=hx a (by simp);rw [Z54_q28];by_cases hs:s<=600
  ·rw [decide_eq_true hs];simp only [cond_true,Ab.on];refine Gw.bind (a:=1) (b:=Sl.sz TDir.sz a.FDirs+(r.map Z6.sz).sum) (w1:=1) (w2:=r.length) (Gw.add (by omega) (by omega)) (by omega) (by simp; omega) fun x h1 h2=>?_;exact Gw.two (b:=(r.map Z6.sz).sum) (w2:=r.length) (dirs_w 600 a.FDirs (by omega)).w (by omega) (by omega) (by omega) fun q h7 h8=>members_g r q (fun z hz=>hx z (by simp [hz])) (by omega) (by omega)
  ·rw [decide_eq_false hs]; exact Gw.stop _ _ hs
theorem defs_g:∀(l:List TDef) (s:Int),(∀x∈l,x.sz<=1048576)->0<=s->s+(l.map TDef.sz).sum<=1073741824->Gw (Z54_q8 600 l s) s (l.map TDef.sz).sum (l.map tw).sum
 | [],s,_,_,_=>Gw.none _ _
 | a::r,s,hx,h0,h=>by
  simp only [List.map_cons,List.sum_cons] at h ⊢;have hd:=a.sz_def;have hp:=Bs.sz_pos a.FName;have h1:=Sl.len_le (f:=Bs.sz) a.FImplements (fun x=>Bs.sz_pos x);have hf:Sl.sz Z4.sz a.FFields=1+(a.FFields.l.map Z4.sz).sum:=rfl;have hm:Sl.sz Z6.sz a.FMembers=1+(a.FMembers.l.map Z6.sz).sum:=rfl;have hxa:=hx a (by simp);have htw:tw a=(a.FFields.l.map fw).sum+a.FMembers.l.length+a.FInputs.l.length+a.FImplements.l.length:=rfl
  rw [Z54_q8];by_cases hs:s<=600
  ·rw [decide_eq_true hs];simp only [cond_true,Ab.on];refine Gw.bind (a:=a.FImplements.l.length) (b:=Sl.sz TDir.sz a.FDirs+Sl.sz Z5.sz a.FInputs+(a.FFields.l.map Z4.sz).sum+(a.FMembers.l.map Z6.sz).sum+(r.map TDef.sz).sum) (w1:=a.FImplements.l.length) (w2:=a.FInputs.l.length+(a.FFields.l.map fw).sum+a.FMembers.l.length+(r.map tw).sum) (Gw.add (by omega) (by omega)) (by omega) (by omega) fun x h1 h2=>?_
   refine Gw.two (b:=Sl.sz Z5.sz a.FInputs+(a.FFields.l.map Z4.sz).sum+(a.FMembers.l.map Z6.sz).sum+(r.map TDef.sz).sum) (w2:=a.FInputs.l.length+(a.FFields.l.map fw).sum+a.FMembers.l.length+(r.map tw).sum) (dirs_w 600 a.FDirs (by omega)).w (by omega) (by omega) (by omega) fun y h3 h4=>?_;refine Gw.two (b:=(a.FFields.l.map Z4.sz).sum+(a.FMembers.l.map Z6.sz).sum+(r.map TDef.sz).sum) (w2:=(a.FFields.l.map fw).sum+a.FMembers.l.length+(r.map tw).sum) (inputs_g a.FInputs (by omega)) (by omega) (by omega) (by omega) fun z h5 h6=>?_
   refine Gw.bind (b:=(a.FMembers.l.map Z6.sz).sum+(r.map TDef.sz).sum) (w2:=a.FMembers.l.length+(r.map tw).sum) (fields_g a.FFields.l z (fun x hx=>by have:=Sl.mem_le (f:=Z4.sz) hx; omega) (by omega) (by omega)) (by omega) (by omega) fun p h7 h8=>?_;exact Gw.bind (b:=(r.map TDef.sz).sum) (w2:=(r.map tw).sum) (members_g a.FMembers.l p (fun x hx=>by have:=Sl.mem_le (f:=Z6.sz) hx; omega) (by omega) (by omega)) (by omega) rfl fun q h9 h10=>defs_g r q (fun z hz=>hx z (by simp [hz])) (by omega) (by omega)
  ·rw [decide_eq_false hs]; exact Gw.stop _ _ hs
theorem dw_eq (l:List TDef):dw l=l.length+(l.map tw).sum:=by
 unfold dw;induction l with
 | nil=>rfl
 | cons a r ih=>simp only [List.map_cons,List.sum_cons,List.length_cons,ih]; omega
theorem doc_g (d:TDoc) (h:d.sz<=1048576):∃r,Z54_q d 600=some r/\(r<=600->dw d.FDefs.l<=600):=by
 have hd:=d.sz_def;have hi:Sl.sz TDef.sz d.FDefs=1+(d.FDefs.l.map TDef.sz).sum:=rfl;have hl:=Sl.len_le (f:=TDef.sz) d.FDefs (fun x=>x.pos);obtain⟨r,e,h1,h2,h3⟩:=defs_g d.FDefs.l (d.FDefs.l.length:Int) (fun x hx=>by have:=TDoc.def_le hx; omega) (by omega) (by omega);unfold Z54_q; rw [e]; exact⟨r,rfl,fun hr=>by have:=h3 hr; rw [dw_eq]; omega⟩
end Go.Proofs

namespace Go.Proofs
open Go Go.Ab
def Pf (o:Option (Sl Z3)) (s:List Z3) (P:Prop):Prop:=∀r,o=some r->(s≠[]->r.l≠[])/\(r.l=[]->P)
theorem Pf.pure {u:Sl Z3}{P:Prop}(h:P):Pf (some u) u.l P:=fun r e=>by cases e; exact⟨fun h=>h,fun _=>h⟩
theorem Pf.imp {o:Option (Sl Z3)}{s:List Z3}{P Q:Prop}(h:Pf o s P) (hi:P->Q):Pf o s Q:=fun r e=>⟨(h r e).1,fun h2=>hi ((h r e).2 h2)⟩
theorem Pf.none (s:List Z3) (P:Prop):Pf Option.none s P:=fun r e=>(by cases e)
theorem Pf.bind {o:Option (Sl Z3)}{f:Sl Z3->Option (Sl Z3)}{s:List Z3}{P Q:Prop}(h:Pf o s P) (hf:∀u:Sl Z3,Pf (f u) u.l Q):Pf (o.bind f) s (P/\Q):=fun r e=>by
 cases ho:o with
 | none=>rw [ho] at e; cases e
 | some u =>
  rw [ho] at e;have h1:=h u ho;have h2:=hf u r e;refine⟨fun hs=>h2.1 (h1.1 hs),fun hr=>⟨h1.2 ?_,h2.2 hr⟩⟩;exact Classical.byContradiction fun hc=>h2.1 hc hr
theorem Pf.skip {α:Type}{o:Option α}{f:α->Option (Sl Z3)}{s:List Z3}{Q:Prop}(hf:∀u,o=some u->Pf (f u) s Q):Pf (o.bind f) s Q:=fun r e=>by
 cases ho:o with
 | none=>rw [ho] at e; cases e
 | some u=>rw [ho] at e; exact hf u ho r e
theorem Pf.guard {α:Type}{c:Bool}{o:Option α}{d:α}{f:α->Option (Sl Z3)}{s:List Z3}{Q:Prop}(hf:∀u,(c=true->o=some u)->Pf (f u) s Q):Pf (guardO c o d f) s Q:=by
 cases c
 ·exact hf d fun h=>(by cases h)
 ·intro r e;cases ho:o with
  | none=>rw [ho] at e; cases e
  | some u=>rw [ho] at e; exact hf u (fun _=>ho) r e
theorem app_l {α:Type}{z:Nat}{s r u:Sl α}(h:appC z s r=some u):u.l=s.l++r.l:=by
 unfold appC at h
 split at h
 ·cases h; rfl
 ·cases h
theorem Pf.add (u:Sl Z3) (b:Bool) (x:Z3) (P:Prop):Pf (appC 24 u ⟨b,[x]⟩) u.l P:=fun r e=>by
 have:=app_l e;rw [this];exact⟨fun _=>by simp,fun h=>by simp at h⟩
theorem Pf.id {o:Option (Sl Z3)}{s:List Z3}{P:Prop}(h:Pf o s P):Pf (o.bind fun x=>some x) s P:=fun r e=>by
 cases ho:o with
 | none=>rw [ho] at e; cases e
 | some u=>rw [ho] at e; cases e; exact h _ ho
theorem Pf.app {o:Option (Sl Z3)}{P:Prop}(s:Sl Z3) (h:Pf o [] P):Pf (o.bind fun x=>appC 24 s x) s.l P:=fun r e=>by
 cases ho:o with
 | none=>rw [ho] at e; cases e
 | some u =>
  rw [ho] at e;have h1:=app_l e;rw [h1];exact⟨fun hs=>by simp [hs],fun h2=>(h u ho).2 (List.append_eq_nil_iff.1 h2).2⟩
theorem Pf.appB {o:Option (Sl Z3)}{k:Sl Z3->Option (Sl Z3)}{P Q:Prop}(s:Sl Z3) (h:Pf o [] P) (hk:∀u:Sl Z3,Pf (k u) u.l Q):Pf (o.bind fun x=>(appC 24 s x).bind k) s.l (P/\Q):=by
 have:=(Pf.app s h).bind hk
 rwa [Option.bind_assoc] at this
def Gn {α:Type}(key:α->Bs) (l:List α) (j:Nat):Prop:=∀x,l[j]?=some x->∀m y,m<j->l[m]?=some y->key y≠key x
theorem dst_of {α:Type}{key:α->Bs}{l:List α}(h:∀j,Gn key l j):Dst key l:=by
 unfold Dst;rw [List.pairwise_iff_getElem];intro i j hi hj hij;exact h j _ (List.getElem?_eq_getElem hj) i _ hij (List.getElem?_eq_getElem hi)
theorem gn_any {α:Type}{key:α->Bs}{l:List α}{j:Nat}(h:∀x,l[j]?=some x->((l.take j).any fun y=>key y==key x)=false):Gn key l j:=fun x hx m y hm hy e=>by
 have h1:=h x hx;rw [List.any_eq_false] at h1;have h2:y∈l.take j:=by
  have:(l.take j)[m]?=some y:=by rw [List.getElem?_take_of_lt hm]; exact hy
  exact List.mem_of_getElem? this
 exact h1 y h2 (beq_iff_eq.mpr e)
theorem names_pf (n:Bs) (bad before:Bool) (a:Bs):Pf (Z80_q n bad before a) [] (before=false):=by
 unfold Z80_q;refine Pf.guard fun u _=>?_;refine(Pf.bind (P:=True) (Q:=before=false) ?_ fun u=>?_).imp And.right
 ·cases (bad||!u)
  ·exact Pf.pure (u:=(Sl.nil:Sl Z3)) trivial
  ·exact(Pf.add (Sl.nil:Sl Z3) _ _ _).id
 ·refine Pf.id ?_;cases before
  ·exact Pf.pure rfl
  ·exact(Pf.add _ _ _ _).id
theorem input6_any (n:Bs):∀l:List Z5,(match Z67_q6 n l with|.inl _=>false|.inr e=>e.2)=l.any fun y=>y.FName==n
 | []=>rfl
 | a::r=>by
  rw [Z67_q6,List.any_cons];simp only [Ab.on];cases a.FName==n
  ·exact input6_any n r
  ·rfl
theorem input_any (s:Sl Z5) (n:Bs):(Z67_q s n).2=s.l.any fun y=>y.FName==n:=by
 rw [<- input6_any];unfold Z67_q;simp only [Ab.on];cases Z67_q6 n s.l<;>rfl
theorem field6_any (n:Bs):∀l:List Z4,(match Z65_q6 n l with|.inl _=>false|.inr e=>e.2)=l.any fun y=>y.FName==n
 | []=>rfl
 | a::r=>by
  rw [Z65_q6,List.any_cons];simp only [Ab.on];cases a.FName==n
  ·exact field6_any n r
  ·rfl
theorem field_any (t:TDef) (n:Bs):(Z65_q t n).2=t.FFields.l.any fun y=>y.FName==n:=by
 rw [<- field6_any];unfold Z65_q;simp only [Ab.on];cases Z65_q6 n t.FFields.l<;>rfl
theorem drop_hd {α:Type}{l r:List α}{i:Nat}{x:α}(h:l.drop i=x::r):l[i]?=some x/\l.drop (i+1)=r:=by
 have hi:i<l.length:=by
  rcases Nat.lt_or_ge i l.length with c|c
  ·exact c
  ·rw [List.drop_of_length_le c] at h; cases h
 rw [List.drop_eq_getElem_cons hi] at h;simp only [List.cons.injEq] at h;exact⟨by rw [List.getElem?_eq_getElem hi,h.1],h.2⟩
theorem drop_nil_get {α:Type}{l:List α}{i j:Nat}(h:l.drop i=[]) (hj:i<=j):l[j]?=none:=List.getElem?_eq_none (by have:=congrArg List.length h; simp at this; omega)
theorem inputs_pf (d:TDoc) (a1:Sl Z5) (p q:Bs):∀(l:List Z5) (i:Nat) (s:Sl Z3),a1.l.drop i=l->Pf (Z77_q7 d a1 p q l i s) s.l (∀j,i<=j->Gn Z5.FName a1.l j)
 | [],i,s,h=>by
  rw [Z77_q7];exact Pf.pure fun j hj x hx=>by rw [drop_nil_get h hj] at hx; cases hx
 | a::r,i,s,h=>by
  obtain⟨h1,h2⟩:=drop_hd h;rw [Z77_q7];simp only [Ab.on];refine Pf.skip fun t _=>Pf.skip fun t _=>?_;refine(Pf.appB (Q:=∀j,i+1<=j->Gn Z5.FName a1.l j) s (names_pf _ _ _ _) fun u=>?_).imp fun⟨z1,z2⟩ j hj=>?_
  ·refine(Pf.bind (P:=True) ?_ fun u=>inputs_pf d a1 p q r (i+1) u h2).imp And.right;cases Z78_q d a.FType.FName
   ·exact(Pf.add _ _ _ _).id
   ·cases Z68_q d a.FType.FName
    ·exact(Pf.add _ _ _ _).id
    ·exact Pf.pure trivial
  ·rcases Nat.lt_or_ge i j with c|c
   ·exact z2 j c
   ·obtain rfl:j=i:=by omega
    rw [input_any] at z1;exact gn_any fun x hx=>by rw [h1] at hx; cases hx; exact z1
theorem inputs_dst (d:TDoc) (a1:Sl Z5) (p q:Bs):Pf (Z77_q d a1 p q) [] (Dst Z5.FName a1.l):=by
 unfold Z77_q;exact((inputs_pf d a1 p q a1.l 0 Sl.nil rfl).imp fun h=>dst_of fun j=>h j (Nat.zero_le j)).id
theorem fields_pf (d:TDoc) (t:TDef):∀(l:List Z4) (i:Nat) (s:Sl Z3),t.FFields.l.drop i=l->Pf (Z75_q7 d t l i s) s.l (∀j,i<=j->Gn Z4.FName t.FFields.l j/\∀x,t.FFields.l[j]?=some x->Dst Z5.FName x.FArgs.l)
 | [],i,s,h=>by
  rw [Z75_q7];exact Pf.pure fun j hj=>⟨fun x hx=>(by rw [drop_nil_get h hj] at hx; cases hx),fun x hx=>(by rw [drop_nil_get h hj] at hx; cases hx)⟩
 | a::r,i,s,h=>by
  obtain⟨h1,h2⟩:=drop_hd h;rw [Z75_q7];simp only [Ab.on];refine Pf.skip fun t1 _=>Pf.skip fun t2 _=>?_;refine(Pf.appB (Q:=Dst Z5.FName a.FArgs.l/\∀j,i+1<=j->Gn Z4.FName t.FFields.l j/\∀x,t.FFields.l[j]?=some x->Dst Z5.FName x.FArgs.l) s (names_pf _ _ _ _) fun u=>?_).imp fun⟨z1,z2,z3⟩ j hj=>?_
  ·refine(Pf.bind (P:=True) ?_ fun u=>?_).imp And.right
   ·cases Z78_q d a.FType.FName
    ·exact(Pf.add _ _ _ _).id
    ·rw [Bool.not_true,cond_false];generalize (((!Z70_q a.FType.FName)&&(Z66_q d a.FType.FName).2)&&(decide ((Z66_q d a.FType.FName).1.FKind=(5:Int))))=c;cases c
     ·exact Pf.pure trivial
     ·exact(Pf.add _ _ _ _).id
   ·refine Pf.skip fun t3 _=>?_;exact Pf.appB u (inputs_dst _ _ _ _) fun u=>fields_pf d t r (i+1) u h2
  ·rcases Nat.lt_or_ge i j with c|c
   ·exact z3 j c
   ·obtain rfl:j=i:=by omega
    rw [field_any] at z1;exact⟨gn_any fun x hx=>(by rw [h1] at hx; cases hx; exact z1),fun x hx=>(by rw [h1] at hx; cases hx; exact z2)⟩
theorem fields_dst (d:TDoc) (t:TDef):Pf (Z75_q d t) [] (Dst Z4.FName t.FFields.l/\∀x∈t.FFields.l,Dst Z5.FName x.FArgs.l):=by
 unfold Z75_q;refine((fields_pf d t t.FFields.l 0 Sl.nil rfl).imp fun h=>⟨dst_of fun j=>(h j (Nat.zero_le j)).1,fun x hx=>?_⟩).id;obtain⟨j,hj,rfl⟩:=List.mem_iff_getElem.1 hx;exact(h j (Nat.zero_le j)).2 _ (List.getElem?_eq_getElem hj)
theorem addC_l {a b c:Int}(h:addC a b=some c):c=a+b:=by
 unfold addC at h
 split at h
 ·cases h; rfl
 ·cases h
theorem j13_pf (d:TDoc) (t:TDef) (s:Sl Z3):Pf (Z82_j13 d t s) s.l True:=by
 unfold Z82_j13 Z82_j15;refine Pf.skip fun c _=>?_;cases c
 ·exact Pf.pure trivial
 ·exact(Pf.add _ _ _ _).id
theorem j10_pf (d:TDoc) (t:TDef) (s:Sl Z3):Pf (Z82_j10 d t s) s.l True:=by
 unfold Z82_j10;generalize (((((((t.FName==([81,117,101,114,121]:Bs)))||((t.FName==([77,117,116,97,116,105,111,110]:Bs))))||((t.FName==([83,117,98,115,99,114,105,112,116,105,111,110]:Bs))))&&(!decide (t.FKind=(1:Int))))||(decide (t.FKind<(1:Int))))||(decide ((5:Int)<t.FKind)))=c;cases c
 ·exact j13_pf d t s
 ·exact(Pf.bind (P:=True) (Pf.add _ _ _ _) fun u=>j13_pf d t u).imp fun _=>trivial
theorem j6_pf (d:TDoc) (t:TDef) (b:Bool):Pf (Z82_j6 d t b) [] (b=false):=by
 unfold Z82_j6;rw [Z80_eq];refine(Pf.bind (Q:=True) (names_pf _ _ _ _) fun u=>?_).imp And.left;refine Pf.skip fun c _=>?_;cases c
 ·exact j10_pf d t u
 ·exact(Pf.bind (P:=True) (Pf.add _ _ _ _) fun u=>j10_pf d t u).imp fun _=>trivial
theorem l30_pf (d:TDoc) (t:TDef) (i:Nat):∀(n k:Nat) (b:Bool),Pf (Z82_l30 d (i:Int) t n b (k:Int)) [] (b=false/\∀m y,k<=m->m<i->d.FDefs.l[m]?=some y->y.FName≠t.FName)
 | 0,k,b=>by rw [Z82_l30]; exact Pf.none _ _
 | n+1,k,b=>by
  rw [Z82_l30];by_cases hk:k<i
  ·rw [decide_eq_true (by omega:((k:Nat):Int)<((i:Nat):Int)),cond_true];refine Pf.guard fun x hx=>Pf.skip fun k' hk'=>?_;have e:k'=((k+1:Nat):Int):=by rw [addC_l hk']; omega
   rw [e];refine(l30_pf d t i n (k+1) (b||x.FName==t.FName)).imp fun⟨h1,h2⟩=>?_;rw [Bool.or_eq_false_iff] at h1;refine⟨h1.1,fun m y m1 m2 hy=>?_⟩;rcases Nat.lt_or_ge k m with c|c
   ·exact h2 m y c m2 hy
   ·obtain rfl:m=k:=by omega
    have hx2:=hx (by rw [h1.1]; rfl);unfold idxC at hx2;rw [if_pos (by omega),Int.toNat_natCast,hy] at hx2;cases hx2;exact beq_eq_false_iff_ne.1 h1.2
  ·rw [decide_eq_false (by omega:¬((k:Nat):Int)<((i:Nat):Int)),cond_false];exact(j6_pf d t b).imp fun h=>⟨h,fun m y m1 m2=>by omega⟩
theorem whole_pf (d:TDoc) (i:Nat):Pf (Z82_q d (i:Int)) [] (Gn TDef.FName d.FDefs.l i):=by
 unfold Z82_q Z82;refine Pf.skip fun x hx=>Pf.skip fun b _=>?_;refine(l30_pf d x i F0 0 b).imp fun⟨_,h2⟩=>?_;intro z hz m y hm hy;unfold idxC at hx;rw [if_pos (by omega),Int.toNat_natCast,hz] at hx;cases hx;exact h2 m y (Nat.zero_le m) hm hy
def PartD (t:TDef):Prop:=(t.FKind=1\/t.FKind=2->Dst Z4.FName t.FFields.l/\∀x∈t.FFields.l,Dst Z5.FName x.FArgs.l)/\(t.FKind=5->Dst Z5.FName t.FInputs.l)
theorem check_pf (d:TDoc):∀(l:List TDef) (i:Nat) (s:Sl Z3),d.FDefs.l.drop i=l->Pf (Z64_q14 d l i s) s.l (∀j,i<=j->Gn TDef.FName d.FDefs.l j/\∀x,d.FDefs.l[j]?=some x->PartD x)
 | [],i,s,h=>by
  rw [Z64_q14];exact Pf.pure fun j hj=>⟨fun x hx=>(by rw [drop_nil_get h hj] at hx; cases hx),fun x hx=>(by rw [drop_nil_get h hj] at hx; cases hx)⟩
 | a::r,i,s,h=>by
  obtain⟨h1,h2⟩:=drop_hd h;rw [Z64_q14];simp only [Ab.on];refine(Pf.appB (Q:=PartD a/\∀j,i+1<=j->Gn TDef.FName d.FDefs.l j/\∀x,d.FDefs.l[j]?=some x->PartD x) s (whole_pf d i) fun u=>?_).imp fun⟨z1,z2,z3⟩ j hj=>?_
  ·refine Pf.bind ?_ fun u=>check_pf d r (i+1) u h2;have e12:(bif (decide (a.FKind=(1:Int))) then((decide (a.FKind=(1:Int)))) else((decide (a.FKind=(2:Int)))))=decide (a.FKind=1\/a.FKind=2):=by
    by_cases c1:a.FKind=1<;>by_cases c2:a.FKind=2<;>simp [c1,c2]
   rw [e12];by_cases c12:a.FKind=1\/a.FKind=2
   ·rw [decide_eq_true c12,cond_true];have:=(Pf.app u (fields_dst d a)).id;rw [Option.bind_assoc] at this;exact this.imp fun h=>⟨fun _=>h,fun h5=>by omega⟩
   ·rw [decide_eq_false c12,cond_false];by_cases c4:a.FKind=4
    ·rw [decide_eq_true c4,cond_true];have:=(Pf.app (P:=True) u (o:=Z79_q a) fun r _=>⟨fun h=>absurd rfl h,fun _=>trivial⟩).id;rw [Option.bind_assoc] at this;exact this.imp fun _=>⟨fun h=>absurd h c12,fun h5=>by omega⟩
    ·rw [decide_eq_false c4,cond_false];by_cases c5:a.FKind=5
     ·rw [decide_eq_true c5,cond_true];refine Pf.skip fun t _=>?_;have:=(Pf.app u (inputs_dst d a.FInputs t [])).id;rw [Option.bind_assoc] at this;exact this.imp fun h=>⟨fun h=>absurd h c12,fun _=>h⟩
     ·rw [decide_eq_false c5,cond_false];exact Pf.pure ⟨fun h=>absurd h c12,fun h=>absurd h c5⟩
  ·rcases Nat.lt_or_ge i j with c|c
   ·exact z3 j c
   ·obtain rfl:j=i:=by omega
    exact⟨z1,fun x hx=>by rw [h1] at hx; cases hx; exact z2⟩
theorem check_dst {d:TDoc}{b:Bool}{r:Sl Z3}(h:Z64_q d b=some r) (hr:r.l=[]):Dst TDef.FName d.FDefs.l/\∀t∈d.FDefs.l,PartD t:=by
 have h2:Pf (Z64_q d b) [] (∀j,0<=j->Gn TDef.FName d.FDefs.l j/\∀x,d.FDefs.l[j]?=some x->PartD x):=by
  unfold Z64_q;simp only [Ab.on];refine(Pf.bind (Q:=True) (check_pf d d.FDefs.l 0 Sl.nil rfl) fun u=>?_).imp And.left;refine Pf.id ?_;generalize (b&&(!(Z66_q d ([81,117,101,114,121]:Bs)).2))=c;cases c
  ·exact Pf.pure trivial
  ·exact(Pf.add _ _ _ _).id
 have h3:=(h2 r h).2 hr;refine⟨dst_of fun j=>(h3 j (Nat.zero_le j)).1,fun t ht=>?_⟩;obtain⟨j,hj,rfl⟩:=List.mem_iff_getElem.1 ht;exact(h3 j (Nat.zero_le j)).2 _ (List.getElem?_eq_getElem hj)
end Go.Proofs

namespace Go.Proofs
open Go Go.Ab
theorem condE {α:Type}{c:Bool}{a b:Option α}{z:α}(h:cond c a b=some z):(c=true/\a=some z)\/(c=false/\b=some z):=by cases c; exact .inr ⟨rfl,h⟩; exact .inl ⟨rfl,h⟩
theorem guardE {α β:Type}{c:Bool}{o:Option α}{d:α}{k:α->Option β}{z:β}(h:guardO c o d k=some z):(c=true/\∃v,o=some v/\k v=some z)\/(c=false/\k d=some z):=by
  cases c
  · exact .inr ⟨rfl,h⟩
  · cases ho:o with
    | none=>rw [ho] at h; cases h
    | some v=>rw [ho] at h; exact .inl ⟨rfl,v,rfl,h⟩
theorem defs34 (l:List Bs) (y:Bool) (h:Z56_q34 l=Sum.inr y):y=false:=by
  induction l with
  | nil=>cases h
  | cons a r ih =>
    rw [Z56_q34] at h;simp only [Ab.on] at h
    revert h
    cases (!Z34_q a) with
    | true=>intro h; exact(Sum.inr.inj h).symm
    | false=>exact ih
theorem docs_right (l:List TDef) (z:Unit ⊕ Bool) (h:Z53_q10 l=some z):(z=Sum.inl ()/\∀x∈l,Z56_q x=some true)\/z=Sum.inr false:=by
  induction l generalizing z with
  | nil=>rw [Z53_q10] at h; exact .inl ⟨(Option.some.inj h).symm,fun a ha=>by cases ha⟩
  | cons a r ih =>
    rw [Z53_q10] at h;simp only [Ab.on] at h;obtain⟨x,g,h⟩:=bindO_some h;cases x with
    | false=>simp at h; exact .inr h.symm
    | true =>
      simp only [Bool.not_true,cond_false] at h;rcases ih z h with ⟨h1,h2⟩|h1
      · exact .inl ⟨h1,fun y hy=>by rcases List.mem_cons.1 hy with rfl|hy; exact g; exact h2 y hy⟩
      · exact .inr h1
theorem doc_right {d:TDoc}(h:Z53_q d=some true):∀x∈d.FDefs.l,Z56_q x=some true:=by
  unfold Z53_q at h;rcases condE h with ⟨_,h⟩|⟨_,h⟩
  · cases h
  · obtain⟨z,g,h⟩:=bindO_some h
    rcases docs_right _ _ g with ⟨_,h1⟩|rfl
    · exact h1
    · cases h
theorem def_parts {t:TDef}(h:Z56_q t=some true):((t.FKind=1\/t.FKind=2)\/t.FFields.l=[])/\(t.FKind=5\/t.FInputs.l=[]):=by
  unfold Z56_q at h;simp only [Ab.on] at h;rcases guardE h with ⟨_,x5,_,h⟩|⟨_,h⟩<;>rcases condE h with ⟨_,h⟩|⟨_,h⟩;all_goals first
    | (cases h; done)
    | (cases e:Z56_q34 t.FImplements.l with
       | inr y=>rw [e] at h; have:=defs34 _ _ e; subst this; cases h
       | inl _ =>
         rw [e] at h;simp only at h;rcases condE h with ⟨k1,h⟩|⟨_,h⟩
         · obtain⟨x15,_,h⟩:=bindO_some h
           simp at h k1;exact⟨.inl (.inl k1),.inr h.2⟩
         · rcases condE h with ⟨k1,h⟩|⟨_,h⟩
           · rcases guardE h with ⟨_,x,_,h⟩|⟨_,h⟩
             · simp at h k1; exact⟨.inl (.inr k1),.inr h.2⟩
             · simp at h
           · rcases condE h with ⟨_,h⟩|⟨_,h⟩
             · rcases guardE h with ⟨_,x,_,h⟩|⟨_,h⟩
               · simp at h; exact⟨.inr h.1.1.2,.inr h.2⟩
               · simp at h
             · rcases condE h with ⟨_,h⟩|⟨_,h⟩
               · rcases guardE h with ⟨_,x,_,h⟩|⟨_,h⟩
                 · simp at h; exact⟨.inr h.1.1.2,.inr h.2⟩
                 · simp at h
               · rcases condE h with ⟨k1,h⟩|⟨_,h⟩
                 · rcases guardE h with ⟨_,x,ex,h⟩|⟨_,h⟩
                   · simp at h k1; exact⟨.inr h.1.1.1.2,.inl k1⟩
                   · simp at h
                 · cases h)
theorem rok {t:TRef}(h:t.sz<=1048576):ROk t:=by
  have h1:=t.sz_def;have h2:=TRef.wraps_le t;have h3:Bs.sz t.FName=t.FName.length+1:=rfl;exact⟨by omega,by omega⟩
theorem iok {x:Z5}(hw:x.wf) (h:x.sz<=1048576):IOk x:=by
  have h1:=x.sz_def;exact⟨rok (by omega),by omega,hw.2.2.2.1⟩
theorem fok {x:Z4}(hw:x.wf) (h:x.sz<=1048576):FOk x:=by
  have h1:=x.sz_def;exact⟨rok (by omega),fun y hy=>iok (hw.2.1.2.2 y hy) (by have:=Sl.mem_le (f:=Z5.sz) hy; omega)⟩
theorem tok {t:TDef}(hw:t.wf) (h:t.sz<=1048576):TOk t:=by
  have h1:=t.sz_def;have h2:=Sl.len_le (f:=Bs.sz) t.FImplements (fun x=>Bs.sz_pos x);have h3:=Sl.len_le (f:=Z6.sz) t.FMembers (fun x=>x.pos);exact⟨fun x hx=>fok (hw.2.2.2.2.1.2.2 x hx) (by have:=Sl.mem_le (f:=Z4.sz) hx; omega),fun x hx=>iok (hw.2.2.2.2.2.2.1.2.2 x hx) (by have:=Sl.mem_le (f:=Z5.sz) hx; omega),by omega,⟨hw.2.2.1.1,by omega⟩⟩
end Go.Proofs

namespace Go.Proofs
open Go Go.Ab
structure DocOk (d:TDoc):Prop where
 t:∀t∈d.FDefs.l,TOk t
 n:Dst TDef.FName d.FDefs.l
 e:∀t∈d.FDefs.l,DDst t
 w:dw d.FDefs.l<=600
 r:∀t∈d.FDefs.l,Z56_q t=some true
theorem tw_le {A:List TDef}{t:TDef}(h:t∈A):1+tw t<=dw A:=by
 unfold dw;induction A with
 | nil=>cases h
 | cons a r ih =>
  simp only [List.map_cons,List.sum_cons];rcases List.mem_cons.1 h with rfl|h
  ·omega
  ·have:=ih h; omega
theorem fw_le {A:List Z4}{f:Z4}(h:f∈A):f.FArgs.l.length+1<=(A.map fw).sum:=by
 induction A with
 | nil=>cases h
 | cons a r ih =>
  simp only [List.map_cons,List.sum_cons];rcases List.mem_cons.1 h with rfl|h
  ·unfold fw; omega
  ·have:=ih h; omega
theorem fw_len (A:List Z4):A.length<=(A.map fw).sum:=by
 induction A with
 | nil=>simp
 | cons a r ih=>simp only [List.map_cons,List.sum_cons,List.length_cons]; unfold fw at ih ⊢; omega
theorem expected_is {d:TDoc}(hw:d.wf) (hd:d.sz<=1048576):∃b,Z32_q d=some b/\(b=true->DocOk d):=by
 obtain⟨x3,e3,w3⟩:=doc_g d hd;obtain⟨x4,e4⟩:=Z53_ok d hd;obtain⟨x5,e5,-⟩:=check_tl hd false;have hlen:=Sl.len_le (f:=TDef.sz) d.FDefs (fun x=>x.pos);have hd2:=d.sz_def;unfold Z32_q;rw [e3,Option.bind_some,e4,e5];by_cases hx:x3<=600
 ·have hW:=w3 hx;obtain⟨x6,e6,-⟩:=faces_tl hd ⟨by have:=dw_eq d.FDefs.l; omega,fun x hx=>by
   have h1:=tw_le hx;have h2:=fw_len x.FFields.l;unfold tw at h1;exact⟨⟨by omega,by omega,by omega,by omega,fun f hf=>by have:=fw_le hf; omega⟩,by omega⟩⟩
  rw [e6,decide_eq_true hx];simp only [Bool.true_and];have main:∀c:Bool,(c=true->(d.FDefs.l.length=0\/x4=true))->∃b,(guardO c (some x5) (Sl.nil:Sl Z3) fun x5=>guardO (c&&decide (((x5.l.length:Nat):Int)=(0:Int))) (some x6) (Sl.nil:Sl Z3) fun x6=>some ((c&&decide (((x5.l.length:Nat):Int)=(0:Int)))&&decide (((x6.l.length:Nat):Int)=(0:Int))))=some b/\(b=true->DocOk d):=by
   intro c hc;cases c
   ·exact⟨_,rfl,fun h=>by simp at h⟩
   ·have h5:x5.l.length=0->DocOk d:=fun h5=>by
     obtain⟨c1,c2⟩:=check_dst e5 (List.eq_nil_of_length_eq_zero h5);have hR:∀t∈d.FDefs.l,Z56_q t=some true:=fun t ht=>by
      rcases hc rfl with h|h
      ·rw [List.eq_nil_of_length_eq_zero h] at ht; cases ht
      ·rw [h] at e4; exact doc_right e4 t ht
     refine⟨fun t ht=>tok (hw.1.2.2 t ht) (by have:=TDoc.def_le ht; omega),c1,fun t ht=>?_,hW,hR⟩;have hr:=hR t ht;obtain⟨p1,p2⟩:=c2 t ht;obtain⟨q1,q2⟩:=def_parts hr;refine⟨?_, ?_, ?_⟩
     ·rcases q1 with q|q
      ·exact(p1 q).1
      ·rw [q]; exact List.Pairwise.nil
     ·rcases q1 with q|q
      ·exact(p1 q).2
      ·rw [q]; intro x hx; cases hx
     ·rcases q2 with q|q
      ·exact p2 q
      ·rw [q]; exact List.Pairwise.nil
    simp only [guardO,if_true,Option.bind_some,Bool.true_and];by_cases h0:x5.l.length=0
    ·rw [decide_eq_true (by omega:((x5.l.length:Nat):Int)=(0:Int))];exact⟨_,rfl,fun _=>h5 h0⟩
    ·rw [decide_eq_false (by omega:¬((x5.l.length:Nat):Int)=(0:Int))];exact⟨_,rfl,fun h=>by simp at h⟩
  by_cases h0:d.FDefs.l.length=0
  ·rw [decide_eq_true (by omega:((d.FDefs.l.length:Nat):Int)=(0:Int))];exact main true fun _=>.inl h0
  ·rw [decide_eq_false (by omega:¬((d.FDefs.l.length:Nat):Int)=(0:Int))];exact main x4 fun h=>.inr h
 ·rw [decide_eq_false hx];exact⟨false,rfl,fun h=>(by cases h)⟩
end Go.Proofs

namespace Go.Proofs
open Go Go.Ab
def RtI (x:Z5):Prop:=x.FHas=true->Z39_q x.FDefault=some true
theorem guardT {α β:Type}{o:Option α}{d:α}{k:α->Option β}{z:β}(h:guardO true o d k=some z):∃v,o=some v/\k v=some z:=by
  rcases guardE h with ⟨_,h⟩|⟨hc,_⟩
  · exact h
  · cases hc
structure Rt (t:TDef):Prop where
  f:t.FFields.l.length<=64
  a:∀x∈t.FFields.l,Z59_q x.FArgs=some true
  i:t.FInputs.l.length<=16
  d:∀y∈t.FInputs.l,RtI y
  m:t.FMembers.l.length<=64
  p:t.FImplements.l.length<=64
  q:t.FInputs.l=[]\/Z59_q t.FInputs=some true
end Go.Proofs

namespace Go.Proofs
open Go Go.Ab
theorem example49:Z31=some true:=by kernel_rfl
theorem opp_is (c:Z2):Z94_q c=some (opX c):=by
 obtain⟨k,t,f,a,x,y⟩:=c;unfold Z94_q opX swK;simp only [Ab.on];by_cases h1:k=1
 ·subst h1; rfl
 by_cases h11:k=11
 ·subst h11; rfl
 by_cases h13:k=13
 ·subst h13; rfl
 by_cases h17:k=17
 ·subst h17; rfl
 by_cases h4:k=4
 ·subst h4; rfl
 by_cases h7:k=7
 ·subst h7; rfl
 by_cases h2:k=2
 ·subst h2; rfl
 by_cases h12:k=12
 ·subst h12; rfl
 by_cases h14:k=14
 ·subst h14; rfl
 by_cases h18:k=18
 ·subst h18; rfl
 by_cases h5:k=5
 ·subst h5; rfl
 by_cases h8:k=8
 ·subst h8; rfl
 simp [h1,h11,h13,h17,h4,h7,h2,h12,h14,h18,h5,h8]
theorem q39_mem (x:Z2):∀(l:List Z2) (s:Bool),(s=true\/x∈l)->Z30_q39 x l s=true
 | [],s,h=>by
  rw [Z30_q39];rcases h with h|h
  ·exact h
  ·cases h
 | a::r,s,h=>by
  rw [Z30_q39];simp only [Ab.on];refine q39_mem x r _ ?_;rcases h with h|h
  ·left; rw [h]; rfl
  ·rcases List.mem_cons.1 h with rfl|h
   ·left
    cases s
    ·simp
    ·rfl
   ·exact .inr h
theorem q22_all (B:Sl Z2):∀l:List Z2,(∀x∈l,opX x∈B.l)->Z30_q22 B l=some (Sum.inl ())
 | [],_=>rfl
 | a::r,h=>by
  rw [Z30_q22];simp only [Ab.on];rw [opp_is,Option.bind_some,q39_mem _ _ _ (.inr (h a (.head _))),Bool.not_true,cond_false];exact q22_all B r fun x hx=>h x (.tail _ hx)
theorem opposite_eq {a b:TDoc}(ha:a.wf) (hb:b.wf) (sa:a.sz<=1048576) (sb:b.sz<=1048576):Z30_q a b=some true:=by
 obtain⟨x4,e4,w4⟩:=expected_is ha sa;obtain⟨x5,e5,w5⟩:=expected_is hb sb;unfold Z30_q;rw [e4,Option.bind_some,e5];have hg:∀{k:Bool->Option Bool},guardO (!(!x4)) (some x5) false k=k (x4&&x5):=by
  intro k; cases x4<;>rfl
 rw [hg,example49];cases x4
 ·rfl
 ·cases x5
  ·rfl
  ·have o1:=w4 rfl;have o2:=w5 rfl;have l1:=diffX_len o1.n o2.n o1.e o2.e;have l2:=diffX_len o2.n o1.n o2.e o1.e;have hp:=diffX_op o1.t o2.t o1.n o2.n o1.e o2.e;have h1:=o1.w;have h2:=o2.w;obtain⟨n1,d1⟩:=diff_is o1.t o2.t (by unfold maxD; omega);obtain⟨n2,d2⟩:=diff_is o2.t o1.t (by unfold maxD; omega);have hl:(diffX a.FDefs.l b.FDefs.l).length=(diffX b.FDefs.l a.FDefs.l).length:=by
    have:=hp.length_eq; rwa [List.length_map] at this
   simp only [Bool.and_true,Bool.not_true,Bool.or_false,cond_false];rw [d1,Option.bind_some,d2,Option.bind_some];simp only [];rw [hl,decide_eq_true rfl,Bool.not_true,Bool.false_or,decide_eq_false (by omega),cond_false,q22_all _ _ fun x hx=>hp.subset (List.mem_map_of_mem hx),Option.bind_some];rfl
end Go.Proofs

namespace Go.Proofs.YtbcphmbgonamlaaGreatDoor
open Go Go.Ab Go.RowKit Go.ChangeShapes Go.WideShapes Go.ChangeAt
variable {lou:Lou} [IsLoud lou]
theorem bulkAll {H:Type}(l:List (DataW H)):Rows.uptoBulkAll l=(l.map Rows.uptoBulk).sum:=by
 induction l with
 | nil=>rfl
 | cons x r ih=>simp only [Rows.uptoBulkAll,List.map_cons,List.sum_cons,ih]
theorem bulkB {H:Type}:Bulk (H:=H) Rows.uptoBulk:=by
 refine⟨fun d=>?_,fun b=>by simp [Rows.uptoBulk],fun e s=>by simp only [Rows.uptoBulk,bulkAll]; omega,fun l=>by simp only [Rows.uptoBulk,bulkAll]; omega⟩;cases d with
 | lit l=>cases l<;>simp [Rows.uptoBulk]
 | nil=>simp [Rows.uptoBulk]
 | ptr d=>simp [Rows.uptoBulk]
 | slice elems spare=>simp [Rows.uptoBulk]
 | agg parts=>simp [Rows.uptoBulk]
 | iface t d=>simp [Rows.uptoBulk]
 | map entries=>simp [Rows.uptoBulk]
 | held h=>simp [Rows.uptoBulk]
theorem own:ownKnob Tryz.prog.godebug=none:=by kernel_rfl
theorem laid:laidOutB Tryz.prog=true:=by kernel_rfl
theorem bound {H:Type}{l:List (DataW H)}(hk:Rows.uptoSmall H l=true):Rows.uptoBulkAll l<=1048576:=of_decide_eq_true hk
theorem table {W:World}(h:laidMet Tryz.prog Rows.changesOppositeUptoRow.laid W):∃u fr,W.heap[1]?=some (.cells (Lib.pow10Tab.map fun z=>Value.int .u64 z).toArray u fr) :=
 tab_of (P:=Tryz.prog) (name := "internal/strconv.uint64pow10") (g:=1) (t:=377) (e:=323) (n:=20) (by kernel_rfl) (by kernel_rfl) (by kernel_rfl) (by kernel_rfl) (by kernel_rfl) (by kernel_rfl) h
  (by rw [show (Lib.tabData .u64 Lib.pow10Tab:DataW Unit)=Rows.laid_internal_strconv_uint64pow10 from(by kernel_rfl)]; exact .tail _ (.tail _ (.head _)))
theorem isTab (u:TypeId) (fr:Nat×Nat):IsTab Tryz.prog (.fix 1 (.cells (Lib.pow10Tab.map fun z=>Value.int .u64 z).toArray u fr)):=.of (by kernel_rfl)
theorem opposite_call (a b:TDoc) (ha:a.sz<=1048576) (hb:b.sz<=1048576) (wa:a.wf) (wb:b.wf) (u:TypeId) (fr:Nat×Nat):ACalls Tryz.prog 5 [.agg a.c,.agg b.c] (hTab 1 (.cells (Lib.pow10Tab.map fun z=>Value.int .u64 z).toArray u fr)) fun r h'=>r=.a (.d (.bool true))/\h'=hTab 1 (.cells (Lib.pow10Tab.map fun z=>Value.int .u64 z).toArray u fr) :=
 Z30_walk (by rw [Z30_eq]; exact opposite_eq wa wb ha hb) _ (gT:=0) rfl (isTab u fr)
end Go.Proofs.YtbcphmbgonamlaaGreatDoor

