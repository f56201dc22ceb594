import Derived.Test.YtcknjppeompbkaaGreatDoorK5
import Derived.Test.YtcknjppeompbkaaGreatDoorMR3
import Derived.Test.YtcknjppeompbkaaGreatDoorQIn
set_option linter.all false
namespace Ab
open Go
section
section
variable {o:List Dim} {p k:List Int} (ok:OutOk o) (hp:Fit o p) (hk:Fit o k)
include ok hp hk
end
end
section
def edL (o:List Dim):List Entry->List Edit->Nat->List Entry×Int×Int
 | l,[],_=>(l,0,0)
 | l,e :: xs,i=>if (doL o l e).2=0 then edL o (doL o l e).1 xs (i+1) else ([],(i:Int),(doL o l e).2)
def zjq (o:List Dim) (l:List Entry) (xs:List Edit):List Entry×Int×Int :=
 if 60 < xs.length then ([],0,4) else if zhj o l=0 then edL o l xs 0 else ([],0,zhj o l)
def do_ok {o:List Dim} {l:List Entry} {e:Edit} (ok:EntsOk o l) (h:(doL o l e).2=0):EntsOk o (doL o l e).1:=by
 unfold doL at h ⊢;by_cases c1:zaw o e.at_=0
 case neg=>simp only[c1,if_false] at h
 simp only[c1,if_true] at h ⊢;cases c2:e.clear with
 | true =>
  simp only[c2,if_true] at h ⊢;cases c3:dA l e.at_ with
  | false=>simp[c3] at h
  | true=>simp only[if_true];exact ok.era
 | false =>
  simp only[c2,Am,if_false] at h ⊢;cases c3:eg o e.at_ with
  | false=>simp[c3] at h
  | true =>
   cases c4:zba e.n with
   | false=>simp[c3,c4] at h
   | true=>simp only[Bool.true_eq_false,if_false];exact ok.put (zcQ.1 c1) c3 c4
def P112_loop {o:List Dim} (xs:List Edit) (hx:Lst Edit.gd xs):∀ (n i:Nat) (l:List Entry),xs.length - i=n->i<=xs.length->EntsOk o l ->
  jn (lpO (zaF P71 o xs) (l,(i:Int))) (fun x6=>some (x6.1,((0:Int),Err.nil)))=some ((edL o l (xs.drop i) i).1,(edL o l (xs.drop i) i).2.1,zp (edL o l (xs.drop i) i).2.2):=by
 have hlen:=hx.1;intro n
 induction n with
 | zero =>
  intro i l hi hle ok;obtain rfl:i=xs.length:=by omega
  rw[jt (y:=(l,((xs.length:Nat):Int))) (by simp[zaF]),List.drop_length];rfl
 | succ n ih =>
  intro i l hi hle ok;have aq:i < xs.length:=by omega
  have e:((i:Nat):Int) < ((xs.length:Nat):Int):=by omega
  have hm:=Ac aq;have hg:=hx.2 _ (Be aq);rw[BD aq];simp only[edL];by_cases c:(doL o l xs[i]).2=0
  ·have hB:zaF P71 o xs (l,(i:Int))=some (.nx ((doL o l xs[i]).1,((i+1:Nat):Int))):=(by simp only[zaF,e,decide_true,zw,zn,hm,zq,P71_eq ok hg.1.1,zT,c,Bf,zi,eo];rw[ww (by omega) (by omega)];rfl);rw[zcJ hB,if_pos c];exact ih (i+1) _ (by omega) (by omega) (do_ok ok c)
  ·have hB:zaF P71 o xs (l,(i:Int))=some (.fin (([]:List Entry),(i:Int),zp (doL o l xs[i]).2)):=(by simp only[zaF,e,decide_true,zw,zn,hm,zq,P71_eq ok hg.1.1,zT,c,decide_false,BV,finO_s]);rw[wK hB,if_neg c];rfl
def P112_eq {o:List Dim} {l:List Entry} {xs:List Edit} (hl:Lst Entry.gd l) (hx:Lst Edit.gd xs):P112 o l xs=some ((zjq o l xs).1,(zjq o l xs).2.1,zp (zjq o l xs).2.2):=by
 simp only[P112,S112,P27_eq o l hl,zq,zT];unfold zjq;by_cases c:60 < xs.length
 ·have e:(60:Int) < ((xs.length:Nat):Int):=by omega
  simp[c,e,zp]
 ·have e:¬ (60:Int) < ((xs.length:Nat):Int):=by omega
  by_cases h:zhj o l=0
  ·have ok:=ents_ok.1 h;have nI:P72 l=some l:=P72_eq (by have:=ok.len;unfold qB;omega) fun e he=>by have:=(ok.fit e he).len;have:=ok.out.len;unfold qB;omega
   have:=P112_loop (o:=o) xs hx xs.length 0 l (by omega) (BG _) ok;simp only[List.drop_zero] at this;simp only[e,decide_false,zi,h,decide_true,Bf,nI,zq,wc,c,if_false,if_true];exact this
  ·simp[c,e,h]
end
end Ab
