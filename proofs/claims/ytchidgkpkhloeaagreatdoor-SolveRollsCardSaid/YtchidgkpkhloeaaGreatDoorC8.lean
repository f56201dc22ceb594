import Derived.Lib.AtoiAllCases
import Derived.Test.YtchidgkpkhloeaaGreatDoorC7
open List (append_assoc getElem?_append_left length_append)
open Nat (le_refl)
set_option linter.unusedVariables false
set_option linter.unusedSimpArgs false
namespace Ab
open Go
section
set_option maxRecDepth 100000
section
variable (F157:Int->(Option ByteArray)) (F241:LN->(Option Err)) (F252:Int->(Option Bool)) (F254:LN->Int->(Option ByteArray)) (F260:Int->(Option Bool))
end
end
section
theorem zcN {d:Nat} (h:d < 10):(UInt8.ofNat (48+d)).toNat=48+d:=by
 rw[UInt8.toNat_ofNat'];omega
theorem zgi:∀ (u:Nat),∀ c∈Lib.decDigits u,48<=c.toNat∧c.toNat<=57:=by
 intro u
 induction u using Nat.strongRecOn with
 | _ u ih =>
  intro c hc;rw[Lib.decDigits] at hc;split at hc
  ·rename_i h;rw[List.mem_singleton] at hc;subst hc;rw[zcN h];omega
  ·rename_i h;rcases List.mem_append.1 hc with hc | hc
   ·exact ih (u / 10) (by omega) c hc
   ·rw[List.mem_singleton] at hc;subst hc;rw[zcN (by omega)];omega
theorem zik (u:Nat):Lib.decDigits u≠[]:=by
 rw[Lib.decDigits]
 split<;>simp
theorem dec_len:∀ (k u:Nat),u < 10 ^ (k+1)->(Lib.decDigits u).length<=k+1:=by
 intro k
 induction k with
 | zero =>
  intro u h;rw[Lib.decDigits,dif_pos (by omega)];simp
 | succ k ih =>
  intro u h;rw[Lib.decDigits];split
  ·simp
  ·have:=ih (u / 10) (by rw[Nat.pow_succ] at h;omega);simp only[length_append,List.length_singleton];omega
theorem parse_dec (u:Nat):u < 1000000000000000000->∀ r:List UInt8,Lib.parseUint10 0 (Lib.decDigits u++r)=Lib.parseUint10 u r:=by
 induction u using Nat.strongRecOn with
 | _ u ih =>
  intro hu r;rw[Lib.decDigits];split
  ·rename_i h;simp only[List.singleton_append,Lib.parseUint10,zcN h];rw[if_pos (by omega),if_neg (by omega),if_neg (by omega)];congr 1;omega
  ·rename_i h;rw[append_assoc,ih (u / 10) (by omega) (by omega)];have hd:u % 10 < 10:=by omega
   simp only[List.singleton_append,Lib.parseUint10,zcN hd];rw[if_pos (by omega),if_neg (by omega),if_neg (by omega)];congr 1;omega
theorem mag_dec {u:Nat} (hu:u < 1000000000000000000):Lib.parseMag (Lib.decDigits u)=.ok u:=by
 unfold Lib.parseMag;rw[if_neg (zik u)];have:=parse_dec u hu [];rw[List.append_nil] at this;rw[this];rfl
theorem atoi_itoa {n:Int} (h : -1000000000000000000 < n∧n < 1000000000000000000):Lib.atoiAll (Lib.itoa n)=.ok n:=by
 unfold Lib.itoa;split
 ·rename_i hn;have hm:=mag_dec (u:=n.natAbs) (by omega);simp only[Lib.atoiAll];have e:((45:UInt8).toNat=43∨(45:UInt8).toNat=45):=.inr rfl;rw[if_pos e,hm];have e2:(45:UInt8).toNat=45:=rfl;simp only[e2,not_true,false_and,if_false,true_and,if_true];rw[if_neg (by omega)];congr 1;omega
 ·rename_i hn;have hm:=mag_dec (u:=n.toNat) (by omega);cases hd:Lib.decDigits n.toNat with
  | nil=>exact absurd hd (zik _)
  | cons c r =>
   have hc:=zgi n.toNat c (by rw[hd];exact List.mem_cons_self);rw[hd] at hm;have e1:¬ (c.toNat=43∨c.toNat=45):=by omega
   have e2:¬ c.toNat=45:=by omega
   simp only[Lib.atoiAll];rw[if_neg e1,hm];simp only[e2,not_false_eq_true,true_and,false_and,if_false];rw[if_neg (by omega)];congr 1;omega
def itoaB (n:Int):ByteArray:=⟨(Lib.itoa n).toArray⟩
theorem zjb (n:Int):(itoaB n).data.toList=Lib.itoa n:=by simp[itoaB]
theorem zja (n:Int):(itoaB n).size=(Lib.itoa n).length:=by simp[itoaB,ByteArray.size]
end
section
end
section
inductive Fx where
 | num (n:Int)
 | ref (s:ByteArray)
 | bin (o:Int) (a b:Fx)
def Fx.op:Fx->Int
 | .num _=>1
 | .ref _=>2
 | .bin o _ _=>o
def Fx.sz:Fx->Nat
 | .num _=>1
 | .ref _=>1
 | .bin _ a b=>a.sz+b.sz+1
theorem Fx.sz_pos:∀ e:Fx,1<=e.sz
 | .num _=>le_refl _
 | .ref _=>le_refl _
 | .bin _ a b=>by simp[Fx.sz]
def Fx.Fine:Fx->Prop
 | .num n=>0<=n∧n<=1000000
 | .ref s=>zI s=false
 | .bin o a b=>3<=o∧o<=6∧a.Fine∧b.Fine
def Tr (l:List Node):Fx->Nat->Prop
 | .num n,i=>l[i]? = some ⟨1,n,⟨#[]⟩,0,0⟩
 | .ref s,i=>l[i]? = some ⟨2,0,s,0,0⟩
 | .bin o a b,i=>∃ m k:Nat,l[i]? = some ⟨o,0,⟨#[]⟩,m,k⟩∧m < i∧k < i∧Tr l a m∧Tr l b k
theorem Tr.lt {l:List Node}:∀ {e:Fx} {i:Nat},Tr l e i->i < l.length
 | .num n,i,h=>(List.getElem?_eq_some_iff.1 h).1
 | .ref n,i,h=>(List.getElem?_eq_some_iff.1 h).1
 | .bin o a b,i,h=>by
  obtain ⟨m,k,h,_⟩:=h;exact (List.getElem?_eq_some_iff.1 h).1
theorem Tr.app {l:List Node} (r:List Node):∀ {e:Fx} {i:Nat},Tr l e i->Tr (l++r) e i
 | .num n,i,h=>by
  have:=h.lt;exact (getElem?_append_left this).trans h
 | .ref n,i,h=>by
  have:=h.lt;exact (getElem?_append_left this).trans h
 | .bin o a b,i,h=>by
  have hl:=h.lt;obtain ⟨m,k,h,h1,h2,h3,h4⟩:=h;exact ⟨m,k,(getElem?_append_left hl).trans h,h1,h2,h3.app r,h4.app r⟩
section
variable {l:List Node}
-- as text
def tight (o:Int):Bool:=o == 5 || o == 6
def yw (c:Bool) (t:ByteArray):ByteArray:=if c=true then ⟨#[40]⟩++t++⟨#[41]⟩ else t
def sgB (o:Int):ByteArray:=if o=3 then ⟨#[43]⟩ else if o=4 then ⟨#[45]⟩ else if o=5 then ⟨#[42]⟩ else ⟨#[47]⟩
def lpar (o c:Int):Bool:=decide (3<=c) && (tight o && !tight c)
def rpar (o c:Int):Bool:=decide (3<=c) && (tight o || !tight c)
def Fx.text:Fx->ByteArray
 | .num n=>itoaB n
 | .ref s=>s
 | .bin o a b=>yw (lpar o a.op) a.text++sgB o++yw (rpar o b.op) b.text
theorem sgB_size (o:Int):(sgB o).size=1:=by
 unfold sgB
 repeat' split
 all_goals rfl
theorem zfU {s:ByteArray} (h:zI s=false):1<=s.size∧s.size<=8:=by
 unfold zI at h;simp only[Bool.or_eq_false_iff,decide_eq_false_iff_not] at h;obtain ⟨h1,h2,_⟩:=h;refine ⟨?_,by omega⟩;rcases Nat.eq_zero_or_pos s.size with h0 | h0
 ·exfalso;apply h1;obtain ⟨⟨a⟩⟩:=s;have:a.length=0:=h0;rw[List.length_eq_zero_iff] at this;subst this;rfl
 ·exact h0
-- what it comes to
def Fx.val (names:List ByteArray) (cells:List Cell):Fx->Cell
 | .num n=>qS n
 | .ref s=>cells.getD (nmI names s).toNat ⟨0,0⟩
 | .bin o a b=>if o=3 then wb (a.val names cells) (b.val names cells) 1 else if o=4 then wb (a.val names cells) (b.val names cells) (-1) else if o=5 then zaQ (a.val names cells) (b.val names cells) else cover (a.val names cells) (b.val names cells)
theorem val_eq (names:List ByteArray) (cells:List Cell):∀ (e:Fx) (i k:Nat),Tr l e i->e.Fine->i < k->k<=l.length->(evL l names cells k).getD i ⟨0,0⟩=e.val names cells
 | .num n,i,k,h,_,hk,hl=>by rw[evL_at (show l[i]? = _ from h) k hk hl];rfl
 | .ref n,i,k,h,_,hk,hl=>by rw[evL_at (show l[i]? = _ from h) k hk hl];rfl
 | .bin o a b,i,k,h,hf,hk,hl=>by
  obtain ⟨m,n,h,h1,h2,h3,h4⟩:=h;obtain ⟨g1,g2,g3,g4⟩:=hf;rw[evL_at h k hk hl];unfold zbS;simp only;rw[if_neg (by omega),if_neg (by omega),Int.toNat_natCast,Int.toNat_natCast,val_eq names cells a m i h3 g3 h1 (by omega),val_eq names cells b n i h4 g4 h2 (by omega)];rfl
-- its nodes in a row
def Fx.po (n:Nat):Fx->List Node
 | .num v=>[⟨1,v,⟨#[]⟩,0,0⟩]
 | .ref s=>[⟨2,0,s,0,0⟩]
 | .bin o a b=>a.po n++b.po (n+a.sz)++[⟨o,0,⟨#[]⟩,((n+a.sz - 1:Nat):Int),((n+a.sz+b.sz - 1:Nat):Int)⟩]
theorem qK:∀ (e:Fx) (n:Nat),(e.po n).length=e.sz
 | .num _,_=>rfl
 | .ref _,_=>rfl
 | .bin o a b,n=>by simp[Fx.po,Fx.sz,qK a,qK b,Nat.add_assoc]
theorem tr_po:∀ (e:Fx) (out:List Node),Tr (out++e.po out.length) e (out.length+e.sz - 1)
 | .num v,out=>by simp[Tr,Fx.po,Fx.sz]
 | .ref v,out=>by simp[Tr,Fx.po,Fx.sz]
 | .bin o a b,out=>by
  have h1:=tr_po a out;have h2:=tr_po b (out++a.po out.length);have c1:=a.sz_pos;have c2:=b.sz_pos;rw[length_append,qK] at h2;refine ⟨out.length+a.sz - 1,out.length+a.sz+b.sz - 1, ?_,by simp only[Fx.sz];omega,by simp only[Fx.sz];omega, ?_, ?_⟩
  ·simp only[Fx.po,Fx.sz,← append_assoc];rw[List.getElem?_append_right (by simp only[length_append,qK];omega)];simp only[length_append,qK];rw[show out.length+(a.sz+b.sz+1) - 1 - (out.length+a.sz+b.sz)=0 by omega];rfl
  ·simp only[Fx.po,← append_assoc];rw[append_assoc (out++a.po out.length)];exact h1.app _
  ·simp only[Fx.po,← append_assoc];exact h2.app _
end
end
section
theorem zgX:∀ (e:Fx) (n:Nat),e.Fine->∀ (i:Nat) (x:Node),(e.po n)[i]? = some x->qj (n+i) x=0
 | .num v,n,hf,i,x,h=>by
  obtain ⟨h1,h2⟩:=hf;cases i with
  | zero =>
   obtain rfl:=Option.some.inj h;simp[qj,show ¬ v < 0 by omega,show ¬ 1000000 < v by omega]
  | succ i=>simp[Fx.po] at h
 | .ref v,n,hf,i,x,h=>by
  have hf:zI v=false:=hf;cases i with
  | zero =>
   obtain rfl:=Option.some.inj h;simp[qj,hf]
  | succ i=>simp[Fx.po] at h
 | .bin o a b,n,hf,i,x,h=>by
  obtain ⟨g1,g2,g3,g4⟩:=hf;have c1:=a.sz_pos;have c2:=b.sz_pos;simp only[Fx.po] at h;by_cases hi:i < a.sz+b.sz
  ·rw[getElem?_append_left (by simp only[length_append,qK];exact hi)] at h;by_cases hj:i < a.sz
   ·rw[getElem?_append_left (by rw[qK];exact hj)] at h;exact zgX a n g3 i x h
   ·rw[List.getElem?_append_right (by rw[qK];omega),qK] at h;have:=zgX b (n+a.sz) g4 (i - a.sz) x h;rw[show n+a.sz+(i - a.sz)=n+i by omega] at this;exact this
  ·rw[List.getElem?_append_right (by simp only[length_append,qK];omega)] at h;simp only[length_append,qK] at h;have h0:i - (a.sz+b.sz)=0:=by
    have:=(List.getElem?_eq_some_iff.1 h).1;simp only[List.length_cons,List.length_nil] at this;omega
   rw[h0] at h;obtain rfl:=Option.some.inj h;unfold qj;simp only;rw[if_neg (by omega),if_neg (by omega),if_neg (by omega),if_neg (by omega),if_pos (by simp)]
theorem cnt_po:∀ (e:Fx) (n j:Nat),e.Fine->zfm (e.po n) j=if n<=j∧j+1 < n+e.sz then 1 else 0
 | .num v,n,j,hf=>by
  rw[if_neg (by simp only[Fx.sz];omega)];rfl
 | .ref v,n,j,hf=>by
  rw[if_neg (by simp only[Fx.sz];omega)];rfl
 | .bin o a b,n,j,hf=>by
  obtain ⟨g1,g2,g3,g4⟩:=hf;have c1:=a.sz_pos;have c2:=b.sz_pos;have hz:(Fx.bin o a b).sz=a.sz+b.sz+1:=rfl;simp only[Fx.po,zio,cnt_po a n j g3,cnt_po b (n+a.sz) j g4];have e1:zfm [⟨o,0,⟨#[]⟩,((n+a.sz - 1:Nat):Int),((n+a.sz+b.sz - 1:Nat):Int)⟩] j=(if j=n+a.sz - 1 then 1 else 0)+(if j=n+a.sz+b.sz - 1 then 1 else 0):=by
   simp only[zfm,List.map_cons,List.map_nil,List.sum_cons,List.sum_nil,Nat.add_zero,par];rw[if_pos g1];congr 1
   ·by_cases h:j=n+a.sz - 1
    ·rw[if_pos h,if_pos (by omega)]
    ·rw[if_neg h,if_neg (by omega)]
   ·by_cases h:j=n+a.sz+b.sz - 1
    ·rw[if_pos h,if_pos (by omega)]
    ·rw[if_neg h,if_neg (by omega)]
  rw[e1];by_cases d1:j=n+a.sz - 1
  ·rw[if_pos d1,if_neg (show ¬ j=n+a.sz+b.sz - 1 by omega),if_neg (by omega),if_neg (by omega),if_pos (by omega)]
  ·rw[if_neg d1];by_cases d2:j=n+a.sz+b.sz - 1
   ·rw[if_pos d2,if_neg (by omega),if_neg (by omega),if_pos (by omega)]
   ·rw[if_neg d2];by_cases d3:n<=j∧j+1 < n+a.sz
    ·rw[if_pos d3,if_neg (by omega),if_pos (by omega)]
    ·rw[if_neg d3];by_cases d4:n+a.sz<=j∧j+1 < n+a.sz+b.sz
     ·rw[if_pos d4,if_pos (by omega)]
     ·rw[if_neg d4,if_neg (by omega)]
theorem po_ok {e:Fx} (hf:e.Fine) (hs:e.sz<=30):FormOk (e.po 0):=by
 have hl:=qK e 0;have hp:=e.sz_pos;have hn:∀ (i:Nat) (x:Node),(e.po 0)[i]? = some x->qj i x=0:=fun i x h=>by
  have:=zgX e 0 hf i x h
  rwa [Nat.zero_add] at this
 refine ⟨by omega,by omega,hn,fun i hi => ?_⟩;rw[zhJ hn (by omega) _ (le_refl _) i (by omega),List.take_length,cnt_po e 0 i hf,if_pos (by omega)];rfl
-- to whom it refers
section
variable {l:List Node}
end
end
end Ab
