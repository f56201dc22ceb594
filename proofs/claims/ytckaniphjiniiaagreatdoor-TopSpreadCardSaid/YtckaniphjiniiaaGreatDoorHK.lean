import Derived.Test.YtckaniphjiniiaaGreatDoorHN
import Derived.Test.YtckaniphjiniiaaGreatDoorC5
set_option linter.all false
namespace Ab
open Go
section
def edL (o:List Dim):List Entry->List Edit->Nat->List Entry×Int×Int
 | l,[],_=>(l,0,0)
 | l,e::xs,i=>if (doL o l e).2=0 then edL o (doL o l e).1 xs (i+1) else ([],(i:Int),(doL o l e).2)
def zdl (o:List Dim) (l:List Entry) (xs:List Edit):List Entry×Int×Int :=
 if 60<xs.length then ([],0,4) else if zfD o l=0 then edL o l xs 0 else ([],0,zfD o l)
def do_ok {o:List Dim} {l:List Entry} {e:Edit} (ok:EntsOk o l) (h:(doL o l e).2=0):EntsOk o (doL o l e).1:=by
 unfold doL at h ⊢;by_cases c1:jv o e.at_=0
 case neg=>simp only[c1,if_false] at h
 simp only[c1,if_true] at h ⊢;cases c2:e.clear with
 | true =>
  simp only[c2,if_true] at h ⊢;cases c3:ziP l e.at_ with
  | false=>simp[c3] at h
  | true=>simp only[if_true];exact ok.era
 | false =>
  simp only[c2,Au,if_false] at h ⊢;cases c3:jX o e.at_ with
  | false=>simp[c3] at h
  | true =>
   cases c4:jP e.n with
   | false=>simp[c3,c4] at h
   | true=>simp only[Bool.true_eq_false,if_false];exact ok.put (jB.1 c1) c3 c4
def ed_ok {o:List Dim}:∀ {xs:List Edit} {l:List Entry} {i:Nat},EntsOk o l->((edL o l xs i).2.2=0->EntsOk o (edL o l xs i).1)∧(¬(edL o l xs i).2.2=0->(edL o l xs i).1=[])
 | [],l,i,h=>⟨fun _=>h,fun h=>absurd rfl h⟩
 | e::xs,l,i,h=>by
  simp only[edL];by_cases c:(doL o l e).2=0
  ·rw[if_pos c];exact ed_ok (do_ok h c)
  ·rw[if_neg c];exact⟨fun h=>absurd h c,fun _=>rfl⟩
def P112_loop {o:List Dim} (xs:List Edit) (hx:Lst Edit.gd xs):∀(n i:Nat) (l:List Entry),xs.length-i=n->i<=xs.length->EntsOk o l ->
  jn (lpO (zbC P71 o xs) (l,(i:Int))) (fun x6=>some (x6.1,((0:Int),Err.nil)))=some ((edL o l (xs.drop i) i).1,(edL o l (xs.drop i) i).2.1,zn (edL o l (xs.drop i) i).2.2):=by
 have hlen:=hx.1;intro n
 induction n with
 | zero =>
  intro i l hi hle ok;obtain rfl:i=xs.length:=by omega
  rw[zF (y:=(l,((xs.length:Nat):Int))) (by simp[zbC]),List.drop_length];rfl
 | succ n ih =>
  intro i l hi hle ok;have aj:i<xs.length:=by omega
  have e:((i:Nat):Int)<((xs.length:Nat):Int):=by omega
  have hm:=Aa aj;have hg:=hx.2 _ (Ay aj);rw[BP aj];simp only[edL];by_cases c:(doL o l xs[i]).2=0
  ·have hB:zbC P71 o xs (l,(i:Int))=some (.nx ((doL o l xs[i]).1,((i+1:Nat):Int))):=(by simp only[zbC,e,decide_true,ze,zg,hm,zj,P71_eq ok hg.1.1,zB,c,AW,za,ji];rw[zR (by omega) (by omega)];rfl);rw[qh hB,if_pos c];exact ih (i+1) _ (by omega) (by omega) (do_ok ok c)
  ·have hB:zbC P71 o xs (l,(i:Int))=some (.fin (([]:List Entry),(i:Int),zn (doL o l xs[i]).2)):=(by simp only[zbC,e,decide_true,ze,zg,hm,zj,P71_eq ok hg.1.1,zB,c,decide_false,BN,finO_s]);rw[jo hB,if_neg c];rfl
def P112_eq {o:List Dim} {l:List Entry} {xs:List Edit} (hl:Lst Entry.gd l) (hx:Lst Edit.gd xs):P112 o l xs=some ((zdl o l xs).1,(zdl o l xs).2.1,zn (zdl o l xs).2.2):=by
 simp only[P112,S112,P27_eq o l hl,zj,zB];unfold zdl;by_cases c:60<xs.length
 ·have e:(60:Int)<((xs.length:Nat):Int):=by omega
  simp[c,e,zn]
 ·have e:¬(60:Int)<((xs.length:Nat):Int):=by omega
  by_cases h:zfD o l=0
  ·have ok:=zaG.1 h;have h72:P72 l=some l:=P72_eq (by have:=ok.len;unfold zC;omega) fun e he=>by have:=(ok.fit e he).len;have:=ok.out.len;unfold zC;omega
   have:=P112_loop (o:=o) xs hx xs.length 0 l (by omega) (BM _) ok;simp only[List.drop_zero] at this;simp only[e,decide_false,za,h,decide_true,AW,h72,zj,zW,c,if_false,if_true];exact this
  ·simp[c,e,h]
def all_gd {o:List Dim} {l:List Entry} {xs:List Edit}:Lst Entry.gd (zdl o l xs).1:=by
 have hn:Lst Entry.gd ([]:List Entry):=⟨by simp,by simp⟩;unfold zdl;split
 ·exact hn
 ·split
  ·rename_i h;have ok:=zaG.1 h;have:=ed_ok (o:=o) (xs:=xs) (i:=0) ok;by_cases c:(edL o l xs 0).2.2=0
   ·have k:=this.1 c;exact k.gd k.out.dm
   ·rw[this.2 c];exact hn
  ·exact hn
end
section
end
end Ab
