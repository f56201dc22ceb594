import Derived.Test.YtchidgkpkhloeaaGreatDoorMRr
import Derived.Test.YtchidgkpkhloeaaGreatDoorE2
open List (getElem?_eq_getElem getElem_mem length_drop length_map length_range length_singleton length_take map_append mem_filter mem_map mem_of_getElem? mem_range take_add_one)
open Nat (le_trans)
open Option (map_none map_some)
open Int (toNat_natCast)
set_option linter.unusedVariables false
set_option linter.unusedSimpArgs false
noncomputable section
namespace Ab
open Go
section
theorem zij {d:Dim} (hl:d.members.length<=1000) (i:Int):P100 d i=some (zC d.members i):=by
 simp only[P100,S100,qp];rw[zgD (zgB d.members i) d.members.length (fun k acc hk ha => ?_) (fun acc=>by simp[zid])]
 ·rfl
 ·have e:((k:Nat):Int) < ((d.members.length:Nat):Int):=by omega
  have hr:acc.length+1<=zy:=by unfold zy;omega
  simp only[zid,e,decide_true,zo,za,getElem?_eq_getElem hk,zk,zgB,length_singleton,zp hr,zu,jw];rw[qH (by omega) (by omega)];by_cases h:(d.members[k]).parent=i<;>simp[h]
theorem P102_eq {d:Dim} (hl:d.members.length<=1000) {k:Nat} (hk:k < d.members.length):P102 d k=some (wz d.members k):=by
 have e:decide (((List.length (zC d.members k):Nat):Int)=0)=decide (zC d.members k=[]):=by
  congr 1;rw[← List.length_eq_zero_iff];exact propext ⟨fun h=>by omega,fun h=>by omega⟩
 simp only[P102,S102,za,getElem?_eq_getElem hk,zk,zij hl,wz,e];by_cases h:(d.members[k]).formula=⟨#[]⟩<;>simp[h]
end
section
theorem ziQ {l:List Int} {n:Int}:(zbp l n).length<=l.length+1∧(n ∉ l->(zbp l n).length=l.length+1):=by
 obtain ⟨w1,w2,w3⟩:=zit (fun a=>decide (a < n)) l;unfold zbp;generalize (l.takeWhile fun a=>decide (a < n)).length=k at *;simp only;by_cases hk:l[k]? = some n
 ·rw[if_pos hk];exact ⟨by omega,fun h=>absurd (mem_of_getElem? hk) h⟩
 ·rw[if_neg hk];simp only[List.length_append,length_take,length_drop,length_singleton];omega
theorem zf1 (l:List Int) (n:Int) (h:l.length<=1000000):zeM l n=some (zbp l n):=by
 obtain ⟨t1,t2,t3⟩:=zit (fun a=>decide (a < n)) l;have hi:zbp l n=if l[(l.takeWhile fun a=>decide (a < n)).length]? = some n then l else l.take (l.takeWhile fun a=>decide (a < n)).length++[n]++l.drop (l.takeWhile fun a=>decide (a < n)).length:=rfl;rw[hi];generalize (l.takeWhile fun a=>decide (a < n)).length=k at *;have hs:=zO (B:=zdT l n) (fun i=>(i:Int)) k (fun i hi=>by
  have hx:=getElem?_eq_getElem (show i < l.length by omega);have hp:l[i] < n:=of_decide_eq_true (t1 _ (mem_of_getElem? (i:=i) (by rw[List.getElem?_take,if_pos hi,hx])));have e4:wi ((i:Int)+1)=((i+1:Nat):Int):=by rw[qH (by omega) (by omega)];omega
  simp only[zdT];rw[zm,if_pos (by omega)];simp only[za,hx,zk,zu,qb];rw[zm,if_pos hp,e4]
  rfl)
 have hend:lpO (zdT l n) (0:Int)=some (.inl (k:Int)):=by
  rw[show (0:Int)=((0:Nat):Int) from rfl,hs];refine zV ?_;simp only[zdT];by_cases hk:k < l.length
  ·have hx:=getElem?_eq_getElem hk;have hp:¬ l[k] < n:=of_decide_eq_false (t2 _ hx);rw[zm,if_pos (by omega)];simp only[za,hx,zk,zu,qb];rw[zm,if_neg hp];rfl
  ·rw[zm,if_neg (by omega)];rfl
 simp only[zeM,S347,qp,hend,qb]
 have tail:∀ (hk:k<=l.length),(ck (decide (0<=(0:Int)∧(0:Int)<=(k:Int)∧(k:Int)<=((List.length l:Nat):Int))) <|
   ck (decide (List.length (List.take (Int.toNat (k:Int) - Int.toNat (0:Int)) (List.drop (Int.toNat (0:Int)) l))<=zy)) <|
   ck (decide (List.length (List.take (Int.toNat (k:Int) - Int.toNat (0:Int)) (List.drop (Int.toNat (0:Int)) l))+List.length ([n]:List Int)<=zy)) <|
   ck (decide (0<=(k:Int)∧(k:Int)<=((List.length l:Nat):Int)∧((List.length l:Nat):Int)<=((List.length l:Nat):Int))) <|
   ck (decide (List.length ((List.take (Int.toNat (k:Int) - Int.toNat (0:Int)) (List.drop (Int.toNat (0:Int)) l))++([n]:List Int))+List.length (List.take (Int.toNat ((List.length l:Nat):Int) - Int.toNat (k:Int)) (List.drop (Int.toNat (k:Int)) l))<=zy)) <|
   some (((List.take (Int.toNat (k:Int) - Int.toNat (0:Int)) (List.drop (Int.toNat (0:Int)) l))++([n]:List Int))++(List.take (Int.toNat ((List.length l:Nat):Int) - Int.toNat (k:Int)) (List.drop (Int.toNat (k:Int)) l))))=some (l.take k++[n]++l.drop k):=by
  intro hk;have e0:Int.toNat (0:Int)=0:=rfl;rw[e0,toNat_natCast,toNat_natCast,List.drop_zero,Nat.sub_zero,List.take_of_length_le (show (l.drop k).length<=l.length - k by rw[length_drop];exact Nat.le_refl _)];rw[zp (by omega),zp (by rw[length_take];unfold zy;omega),zp (by rw[length_take,length_singleton];unfold zy;omega),zp (by omega),zp (by rw[List.length_append,length_take,length_singleton,length_drop];unfold zy;omega)]
 rw[tail t3];by_cases hk:k < l.length
 ·have hx:=getElem?_eq_getElem hk;rw[zm,if_pos (by omega)];simp only[za,hx,zk,zu,qb];rw[zm];by_cases e:l[k]=n
  ·rw[if_pos e,if_pos (by rw[e])]
  ·rw[if_neg e,if_neg (fun h=>e (Option.some.inj h))]
 ·rw[zm,if_neg (by omega)];simp only[zu,qb,zg];rw[if_neg (by rw[List.getElem?_eq_none (by omega)];simp)]
theorem P348_eq (l:List Int) (n:Int) (h:l.length<=9223372036854775807):zjn l n=some (zd2 l n):=by
 simp only[zjn,S348];have h1:=zao (B:=zfF l n) (fun y=>decide (y=n)) l true false (fun i y hy=>by
  have hi:=(List.getElem?_eq_some_iff.1 hy).1;simp only[zfF];rw[zm,if_pos (by omega)];simp only[za,hy,zk];rw[qH (by omega) (by omega),zm];by_cases c:y=n<;>simp[c]) (by
  simp only[zfF];rw[zm,if_neg (by omega)]
  rfl)
 rw[h1];unfold zd2;cases (l.any fun y=>decide (y=n))<;>rfl
section
variable {n:List (List Int)}
structure Bel (n:List (List Int)) (i:Nat) (A:List Int):Prop where
 up:A.Pairwise (· < ·)
 rng:∀ x∈A,0<=x∧x < n.length
 re:∀ x∈A,Reach n i x.toNat
 one:∀ x∈n.getD i [],x∈A
theorem zfu {i:Nat} {A:List Int} (h:Bel n i A):A.length<=n.length:=by
 have h1:(A.map Int.toNat).Nodup:=by
  rw[List.Nodup,List.pairwise_map];refine List.Pairwise.imp_of_mem ?_ h.up;intro a b ha hb hab;have:=h.rng a ha;have:=h.rng b hb;omega
 have:=yO _ (List.range n.length) h1 (fun x hx=>by
  obtain ⟨y,hy,rfl⟩:=mem_map.1 hx;have:=h.rng y hy;exact mem_range.2 (by omega))
 rwa [length_map,length_range] at this
theorem bel_ins (hr:Rng n) {i:Nat} {A:List Int} (h:Bel n i A) {x y:Int} (hx:x∈A) (hy:y∈n.getD x.toNat []):Bel n i (zbp A y):=by
 obtain ⟨k1,k2⟩:=insI_ok (n:=y) h.up;have hry:=hr x.toNat y hy;refine ⟨k1,fun z hz => ?_,fun z hz => ?_,fun z hz=>(k2 z).2 (.inl (h.one z hz))⟩
 ·rcases (k2 z).1 hz with hz | rfl
  ·exact h.rng z hz
  ·exact hry
 ·rcases (k2 z).1 hz with hz | rfl
  ·exact h.re z hz
  ·exact (h.re x hx).snoc (mem_map.2 ⟨_,hy,rfl⟩)
theorem inner4 (hr:Rng n) (hw:∀ k,(n.getD k []).length<=1000) (hn:n.length<=1000) {z:Int} {i:Nat} {A:List Int} (h:Bel n i A) (ag:Bool) {k:Nat} (hk:k < A.length) :
  ∃ r,lpO (zdU zeM zjn (n,z) (A,ag,(k:Int))) (A,ag,(0:Int))=some r∧∃ j,(r=.inl (A,ag,j)∧∀ y∈n.getD (A[k]).toNat [],y∈A)∨∃ y,r=.inl (zbp A y,true,j)∧y∈n.getD (A[k]).toNat []∧y ∉ A:=by
 have hkm:=h.rng _ (getElem_mem hk);have hx:=getElem?_eq_getElem hk;have hlt:(A[k]).toNat < n.length:=by omega
 have hg:n[(A[k]).toNat]? = some (n.getD (A[k]).toNat []):=by rw[List.getD_eq_getElem?_getD,getElem?_eq_getElem hlt];rfl
 have hwk:=hw (A[k]).toNat;have hal:=zfu h;generalize hrow:n.getD (A[k]).toNat []=row at *
 have:=zad (B:=zdU zeM zjn (n,z) (A,ag,(k:Int))) (fun x=>x.1=A∧x.2.1=ag∧∃ j:Nat,x.2.2=j∧j<=row.length∧∀ y∈row.take j,y∈A) (fun x=>row.length - x.2.2.toNat)
  (fun r=>∃ j,(r=.inl (A,ag,j)∧∀ y∈row,y∈A)∨∃ y,r=.inl (zbp A y,true,j)∧y∈row∧y ∉ A) (fun x hI=>by
   obtain ⟨x1,x2,x3⟩:=x;obtain ⟨hA1,hA2,j,hj0,hj,hin⟩:=hI;simp only at hA1 hA2 hj0 hin;subst hA1 hA2 hj0;simp only
   have hB:zdU zeM zjn (n,z) (x1,x2,(k:Int)) (x1,x2,(j:Int))=(match row[j]? with
     | some y=>if zd2 x1 y=true then some (.nx (x1,x2,((j+1:Nat):Int))) else some (.dn (zbp x1 y,true,(j:Int)))
     | none=>some (.dn (x1,x2,(j:Int)))):=by
    simp only[zdU,za,hx,zk];rw[zp ⟨hkm.1,hkm.2⟩,hg];simp only[zk];by_cases c:j < row.length
    ·have hy:=getElem?_eq_getElem c;rw[zm,if_pos (by omega),zp ⟨hkm.1,hkm.2⟩,hy];simp only[zk,P348_eq x1 _ (show x1.length<=9223372036854775807 by omega),zf1 x1 _ (show x1.length<=1000000 by omega)];rw[zp ⟨hkm.1,hkm.2⟩];have e4:wi ((j:Int)+1)=((j+1:Nat):Int):=by rw[qH (by omega) (by omega)];omega
     rw[e4];cases zd2 x1 row[j]<;>rfl
    ·rw[zm,if_neg (by omega),List.getElem?_eq_none (by omega)];rfl
   rw[hB];cases hy:row[j]? with
   | none =>
    simp only;have:=List.getElem?_eq_none_iff.1 hy;exact ⟨_,.inl ⟨rfl,fun y hy=>hin y (by rw[List.take_of_length_le this];exact hy)⟩⟩
   | some y =>
    have hjl:=(List.getElem?_eq_some_iff.1 hy).1;by_cases c:zd2 x1 y=true
    ·simp only[if_pos c];refine ⟨⟨trivial,trivial,j+1,rfl,by omega,fun y' hy' => ?_⟩,by rw[toNat_natCast,toNat_natCast];omega⟩;rw[take_add_one,hy] at hy';rcases List.mem_append.1 hy' with hy' | hy'
     ·exact hin y' hy'
     ·simp at hy';subst hy';exact zbe.1 c
    ·simp only[if_neg c];exact ⟨_,.inr ⟨y,rfl,mem_of_getElem? hy,fun h=>c (zbe.2 h)⟩⟩) (A,ag,(0:Int)) ⟨rfl,rfl,0,rfl,by omega,by simp⟩
 exact this
theorem inner5 (hr:Rng n) (hw:∀ k,(n.getD k []).length<=1000) (hn:n.length<=1000) {z:Int} {i:Nat} {A:List Int} (h:Bel n i A) :
  ∃ r,lpO (zfP zeM zjn (n,z)) (A,false,(0:Int))=some r∧∃ A' ag j,r=.inl (A',ag,j)∧Bel n i A'∧(ag=false->∀ x∈A',∀ y∈n.getD x.toNat [],y∈A')∧(ag=true->A.length < A'.length)∧A.length<=A'.length:=by
 refine zad (B:=zfP zeM zjn (n,z)) (fun x=>Bel n i x.1∧(∃ k:Nat,x.2.2=k∧k<=x.1.length∧(x.2.1=false->∀ c∈x.1.take k,∀ y∈n.getD c.toNat [],y∈x.1))∧(x.2.1=true->A.length < x.1.length)∧A.length<=x.1.length) (fun x=>n.length - x.2.2.toNat)
  (fun r=>∃ A' ag j,r=.inl (A',ag,j)∧Bel n i A'∧(ag=false->∀ x∈A',∀ y∈n.getD x.toNat [],y∈A')∧(ag=true->A.length < A'.length)∧A.length<=A'.length) (fun x hI => ?_) (A,false,(0:Int)) ⟨h,⟨0,rfl,by omega,by simp⟩,by simp,Nat.le_refl _⟩
 obtain ⟨B,ag,k'⟩:=x;obtain ⟨hB,⟨k,hk',hk,hcl⟩,hgr,hge⟩:=hI;simp only at hB hk' hk hcl hgr hge;subst hk';have hbl:=zfu hB;simp only[zfP];by_cases c:k < B.length
 ·obtain ⟨r,e1,j,e2⟩:=inner4 hr hw hn (z:=z) hB ag c;have e4:wi ((k:Int)+1)=((k+1:Nat):Int):=by rw[qH (by omega) (by omega)];omega
  rw[zm,if_pos (by omega),qp,e1];rcases e2 with ⟨rfl,e3⟩ | ⟨y,rfl,e3,e5⟩
  ·simp only[qb,jw,e4];refine ⟨⟨hB,⟨k+1,rfl,by omega,fun hag x hx y hy => ?_⟩,hgr,hge⟩,by rw[toNat_natCast,toNat_natCast];omega⟩;rw[take_add_one,getElem?_eq_getElem c] at hx;rcases List.mem_append.1 hx with hx | hx
   ·exact hcl hag x hx y hy
   ·simp at hx;subst hx;exact e3 y hy
  ·simp only[qb,jw,e4];have hl:=(ziQ (l:=B) (n:=y)).2 e5;exact ⟨⟨bel_ins hr hB (getElem_mem c) e3,⟨k+1,rfl,by omega,by simp⟩,fun _=>by omega,by omega⟩,by rw[toNat_natCast,toNat_natCast];omega⟩
 ·rw[zm,if_neg (by omega)];simp only[zj1];refine ⟨B,ag,_,rfl,hB,fun hag x hx=>hcl hag x (by rw[List.take_of_length_le (by omega)];exact hx),hgr,hge⟩
theorem inner6 (hr:Rng n) (hw:∀ k,(n.getD k []).length<=1000) (hn:n.length<=1000) {z:Int} {i:Nat} {A:List Int} (h:Bel n i A) :
  ∃ r,lpO (zb2 zeM zjn (n,z)) (A,true)=some r∧∃ A',r=.inl (A',false)∧Bel n i A'∧∀ x∈A',∀ y∈n.getD x.toNat [],y∈A':=by
 refine zad (B:=zb2 zeM zjn (n,z)) (fun x=>Bel n i x.1∧(x.2=false->∀ c∈x.1,∀ y∈n.getD c.toNat [],y∈x.1)) (fun x=>2 * (n.length - x.1.length)+(if x.2=true then 1 else 0))
  (fun r=>∃ A',r=.inl (A',false)∧Bel n i A'∧∀ x∈A',∀ y∈n.getD x.toNat [],y∈A') (fun x hI => ?_) (A,true) ⟨h,by simp⟩
 obtain ⟨B,ag⟩:=x;obtain ⟨hB,hcl⟩:=hI;simp only at hB hcl;cases ag with
 | false =>
  simp only[zb2,zg,zj1];exact ⟨B,rfl,hB,hcl rfl⟩
 | true =>
  obtain ⟨r,e1,A',ag',j,rfl,e3,e4,e5,e6⟩:=inner5 hr hw hn (z:=z) hB;simp only[zb2,zo,qp];rw[e1];simp only[qb,jw];have hl:=zfu e3;refine ⟨⟨e3,e4⟩, ?_⟩;cases ag' with
  | false=>simp only[Bool.false_eq_true,if_false,if_true];omega
  | true =>
   have:=e5 rfl;simp only[if_true];omega
theorem ring_doc (hr:Rng n) (hw:∀ k,(n.getD k []).length<=1000) (hn:n.length<=1000) {z:Int} {i:Nat} (hup:(n.getD i []).Pairwise (· < ·)) :
  ∃ A',lpO (zb2 zeM zjn (n,z)) (n.getD i [],true)=some (.inl (A',false))∧zjn A' (i:Int)=some (decide (zct n i=some true)):=by
 obtain ⟨r,e1,A',rfl,e3,e4⟩:=inner6 hr hw hn (z:=z) (i:=i) (A:=n.getD i []) ⟨hup,hr i,fun x hx=>.one (mem_map.2 ⟨x,hx,rfl⟩),fun x hx=>hx⟩;refine ⟨A',e1, ?_⟩;have hl:=zfu e3;rw[P348_eq A' _ (by omega)];congr 1;have:zd2 A' (i:Int)=true↔zct n i=some true:=by
  rw[zbe,selfN_iff hr];constructor
  ·intro h;have:=e3.re _ h
   rwa [toNat_natCast] at this
  ·intro h;have key:=zcf (S:=fun j=>((j:Nat):Int)∈A') (n:=n) (fun j hj k hk=>by
    obtain ⟨x,hx,rfl⟩:=mem_map.1 hk;have h0:=(hr j x hx).1;rw[show ((x.toNat:Nat):Int)=x by omega];exact e4 _ hj x (by rw[toNat_natCast];exact hx)) h
   exact key fun k hk=>by
    obtain ⟨x,hx,rfl⟩:=mem_map.1 hk;have h0:=(hr i x hx).1;rw[show ((x.toNat:Nat):Int)=x by omega];exact e3.one x hx
 cases hb:zd2 A' (i:Int) with
 | true=>rw[decide_eq_true (this.1 hb)]
 | false=>rw[decide_eq_false fun h=>by rw[this.2 h] at hb;cases hb]
end
theorem zbf:∀ (l acc:List Int),(l.foldl zbp acc).length<=acc.length+l.length
 | [],acc=>by simp
 | a :: r,acc=>by
  have h1:=zbf r (zbp acc a);have h2:=(ziQ (l:=acc) (n:=a)).1;simp only[List.foldl_cons,List.length_cons];omega
section
variable {d:Dim}
theorem zfc {l:List Int}:zd2 (zd7 l) (-1)=true↔(-1:Int)∈l:=by rw[zbe];exact (wH l).2 (-1)
def refG {γ:Type} (d:Dim) (l:List Node) (e:γ) (j:Nat):Option γ:=match l[j]? with
 | some x=>if x.op=2∧zT d.members x.name < 0 then some e else none
 | none=>none
theorem refG_find {γ:Type} (l:List Node) (e:γ):(List.range l.length).findSome? (refG d l e)=if zd2 (zd7 ((yH l).map (zT d.members))) (-1)=true then some e else none:=by
 cases hf:(List.range l.length).findSome? (refG d l e) with
 | some r =>
  obtain ⟨j,_,hj⟩:=List.exists_of_findSome?_eq_some hf;unfold refG at hj;split at hj
  ·rename_i x hx;split at hj
   ·rename_i c;have hm:zd2 (zd7 ((yH l).map (zT d.members))) (-1)=true:=by
     rw[zfc];refine mem_map.2 ⟨x.name,mem_map.2 ⟨x,mem_filter.2 ⟨mem_of_getElem? hx,by simpa using c.1⟩,rfl⟩, ?_⟩;have:=zb7 d.members x.name;omega
    rw[if_pos hm,hj]
   ·cases hj
  ·cases hj
 | none =>
  have hnone:=List.findSome?_eq_none_iff.1 hf;have hm:¬ zd2 (zd7 ((yH l).map (zT d.members))) (-1)=true:=by
   rw[zfc];intro hm;obtain ⟨s,hs,hw⟩:=mem_map.1 hm;obtain ⟨x,hx,rfl⟩:=mem_map.1 hs;obtain ⟨hx1,hx2⟩:=mem_filter.1 hx;obtain ⟨j,hj⟩:=List.getElem?_of_mem hx1;have:=hnone j (mem_range.2 (List.getElem?_eq_some_iff.1 hj).1);unfold refG at this;rw[hj] at this;simp only at this;rw[if_pos ⟨by simpa using hx2,by omega⟩] at this;cases this
  rw[if_neg hm]
theorem refs_doc (hl:d.members.length<=1000) {l:List Node} (h30:l.length<=1000) (x2:List (List Int)×Int) (y5:List Node×Int×Int) (hy:y5.1=l) :
  lpO (zdW zeM P96 d x2 y5) (([]:List Int),(0:Int))=some (if zd2 (zd7 ((yH l).map (zT d.members))) (-1)=true then .inr (.inr (.fin (([]:List (List Int)),x2.2,(5:Int)))) else .inl (zd7 ((yH l).map (zT d.members)),(l.length:Int))):=by
 have hs:=jf (B:=zdW zeM P96 d x2 y5) (fun j=>(((yH (l.take j)).map (zT d.members)).foldl zbp [],(j:Int))) l.length
  (refG d l (Sum.inr (LR.fin (([]:List (List Int)),x2.2,(5:Int)))))
  (d:=(zd7 ((yH l).map (zT d.members)),(l.length:Int))) (fun j hj _=>by
   have hx:=getElem?_eq_getElem hj;have e4:wi ((j:Int)+1)=((j+1:Nat):Int):=by rw[qH (by omega) (by omega)];omega
   have hb:(((yH (l.take j)).map (zT d.members)).foldl zbp []).length<=1000:=by
    refine le_trans (zbf _ _) ?_;have:=zaW (l.take j);rw[length_take] at this;rw[length_map];simp only[List.length_nil];omega
   unfold refG;simp only[zdW,hy];rw[zm,if_pos (by omega),hx];simp only[za,hx,zk];rw[zax hx,zm];by_cases c:l[j].op=2
   ·rw[if_neg (fun h=>h c),if_pos c,P96_eq d _ (by omega)];simp only[zk];rw[zm];by_cases c2:zT d.members l[j].name < 0
    ·rw[if_pos c2,if_pos ⟨c,c2⟩];rfl
    ·rw[if_neg c2,if_neg (fun h=>c2 h.2),zf1 _ _ (by omega)];simp only[zk,zu,qb,jw,e4,map_append,List.foldl_append];rfl
   ·rw[if_pos c,if_neg c,if_neg (fun h=>c h.1)];simp only[zu,qb,jw,e4,List.append_nil]) (fun _=>by
   simp only[zdW,hy];rw[zm,if_neg (by omega),List.take_length,zgK]
   rfl)
 have e0:(([]:List Int),(0:Int))=(((yH (l.take 0)).map (zT d.members)).foldl zbp [],((0:Nat):Int)):=rfl;rw[e0,hs,refG_find];by_cases c:zd2 (zd7 ((yH l).map (zT d.members))) (-1)=true
 ·rw[if_pos c,if_pos c]
 ·rw[if_neg c,if_neg c]
theorem parts_doc (hl:d.members.length<=1000) (ps:List Int) (hp:∀ x∈ps,∃ k:Nat,x=k∧k < d.members.length) (hn:ps.length<=1000) :
  lpO (zdV zeM d ps) (([]:List Int),(0:Int))=some (.inl (zd7 (ps.filter (fun k=>decide (¬ sgn d.members k=0))),(ps.length:Int))):=by
 have hs:=zO (B:=zdV zeM d ps) (fun j=>(((ps.take j).filter (fun k=>decide (¬ sgn d.members k=0))).foldl zbp [],(j:Int))) ps.length (fun j hj=>by
   have hx:=getElem?_eq_getElem hj;obtain ⟨k,hk,hkm⟩:=hp _ (getElem_mem hj);have e4:wi ((j:Int)+1)=((j+1:Nat):Int):=by rw[qH (by omega) (by omega)];omega
   have hb:(((ps.take j).filter (fun k=>decide (¬ sgn d.members k=0))).foldl zbp []).length<=1000:=by
    refine le_trans (zbf _ _) ?_;have:=List.length_filter_le (fun k=>decide (¬ sgn d.members k=0)) (ps.take j);rw[length_take] at this;simp only[List.length_nil];omega
   have hg:=getElem?_eq_getElem hkm;have hsg:sgn d.members ps[j]=(d.members[k]).sign:=by unfold sgn;rw[hk,toNat_natCast,hg]
   have htk:ps.take (j+1)=ps.take j++[ps[j]]:=by rw[take_add_one,hx];rfl
   simp only[zdV];rw[zm,if_pos (by omega)];simp only[za,hx,zk];rw[hk,za,hg];simp only[zk];rw[zm,htk,List.filter_append];by_cases c:(d.members[k]).sign=0
   ·rw[if_neg (fun h=>h c)];simp only[zu,qb,jw,e4];rw[show List.filter (fun k=>decide (¬ sgn d.members k=0)) [ps[j]]=[] by rw[List.filter_cons_of_neg (by rw[hsg,c];decide)];rfl,List.append_nil]
   ·rw[if_pos c,zf1 _ _ (by omega)];simp only[zk,zu,qb,jw,e4];rw[show List.filter (fun k=>decide (¬ sgn d.members k=0)) [ps[j]]=[ps[j]] by rw[List.filter_cons_of_pos (by rw[hsg];exact decide_eq_true c)];rfl,List.foldl_append,hk]
    rfl)
 have e0:(([]:List Int),(0:Int))=(((ps.take 0).filter (fun k=>decide (¬ sgn d.members k=0))).foldl zbp [],((0:Nat):Int)):=rfl;rw[e0,hs,List.take_length,zgK];refine zV ?_;simp only[zdV];rw[zm,if_neg (by omega)];rfl
theorem allN_up (d:Dim) (i:Nat):((yB d).getD i []).Pairwise (· < ·):=by
 unfold yB;simp only[List.getD_eq_getElem?_getD,List.getElem?_map];by_cases hi:i < d.members.length
 ·rw[List.getElem?_range hi];exact (wH _).1
 ·rw[List.getElem?_eq_none (by rw[length_range];omega)];exact List.Pairwise.nil
theorem P321_eq (d:Dim):P321 d=some (if (qE d).2=0 then yB d else [],(qE d).1,(qE d).2):=by
 simp only[P321,S321,P95_eq,zk];rw[zm];by_cases h0:(zH d).2=0
 ·have ok:=zdp.1 h0;obtain ⟨hl0,hl⟩:=ok.len;rw[if_neg (fun h=>h h0),show qE d=zaV d from if_neg (fun h=>h h0)];unfold zaV;have L1:=jf (B:=zfQ P100 P247 zeM P96 d) (fun i=>((List.range i).map (qW d),(i:Int))) d.members.length (fun i=>((zbJ d i).map fun e=>((i:Int),e)).map fun r=>(([]:List (List Int)),r.1,r.2)) (d:=(yB d,(d.members.length:Int))) (fun i hi hg=>by
   have hx:=getElem?_eq_getElem hi;have e4:wi ((i:Int)+1)=((i+1:Nat):Int):=by rw[qH (by omega) (by omega)];omega
   have hroom:(List.length ((List.range i).map (qW d))+1<=zy):=by rw[length_map,length_range];unfold zy;omega
   simp only[zfQ];rw[zm,if_pos (by omega)];simp only[za,hx,zk];rw[zm];by_cases c:(d.members[i]).formula=⟨#[]⟩
   ·rw[if_neg (fun h=>h c),zij (by omega)];have hneed:qW d i=zd7 (cntP2 d i):=by unfold qW zhv;rw[hx];simp only;rw[if_pos c]
    have hm:zbJ d i=none:=by
     unfold zbJ;rw[hx];simp only;rw[if_neg (fun h=>h.1 c),if_neg];rw[hneed,zfc];intro h;obtain ⟨k,e,_⟩:=zaa (mem_filter.1 h).1;omega
    simp only[zk];rw[qp,parts_doc (by omega) _ (fun x hx=>zaa hx) (le_trans (zah _ _) (by omega)),hm];simp only[qb,zu,map_none];rw[show zd7 (List.filter (fun k=>decide (¬ sgn d.members k=0)) (zC d.members i))=qW d i from hneed.symm,zp (by simp only[length_singleton];exact hroom),e4,List.range_succ,map_append];rfl
   ·rw[if_pos c,P247_eq];simp only[zk];rw[zm];by_cases c2:(rdT (d.members[i]).formula).2.2=0
    ·have hneed:qW d i=zd7 ((yH (rdT (d.members[i]).formula).1).map (zT d.members)):=by unfold qW zhv;rw[hx];simp only;rw[if_neg c]
     have hm:zbJ d i=if zd2 (qW d i) (-1)=true then some 5 else none:=by unfold zbJ;rw[hx];simp only;rw[if_neg (fun h=>h.2 c2)]
     rw[if_neg (fun h=>h c2),qp,refs_doc (by omega) (le_trans (zeX _) (by omega)) _ _ rfl,hm,← hneed];by_cases c3:zd2 (qW d i) (-1)=true
     ·rw[if_pos c3,if_pos c3];rfl
     ·rw[if_neg c3,if_neg c3];simp only[qb,zu,map_none];rw[zp (by simp only[length_singleton];exact hroom),e4,List.range_succ,map_append];rfl
    ·have hm:zbJ d i=some (rdT (d.members[i]).formula).2.2:=by unfold zbJ;rw[hx];simp only;rw[if_pos ⟨c,c2⟩]
     rw[if_pos c2,hm]
     rfl) (fun _=>by
   simp only[zfQ];rw[zm,if_neg (by omega)]
   rfl)
  have e0:(([]:List (List Int)),(0:Int))=((List.range 0).map (qW d),((0:Nat):Int)):=rfl;rw[qp,e0,L1,qc];cases hs:(List.range d.members.length).findSome? (fun i=>(zbJ d i).map fun e=>((i:Int),e)) with
  | some r =>
   have hr:r.2≠0:=by
    obtain ⟨i,_,hi⟩:=List.exists_of_findSome?_eq_some hs;obtain ⟨e,he,rfl⟩:=Option.map_eq_some_iff.1 hi;exact ze3 he
   simp only[map_some,jn_r,if_neg hr]
  | none =>
   have hnone:∀ i,i < d.members.length->zbJ d i=none:=fun i hi=>by
    have:=List.findSome?_eq_none_iff.1 hs i (mem_range.2 hi);simpa using this
   have hrng:=zfz hnone;simp only[map_none,qb];have L2:=jf (B:=zfO zeM zjn (yB d,(d.members.length:Int))) (fun i=>(i:Int)) d.members.length (fun i=>((zcv d i).map fun e=>((i:Int),e)).map fun r=>(([]:List (List Int)),r.1,r.2)) (d:=((d.members.length:Nat):Int)) (fun i hi hg=>by
    have e4:wi ((i:Int)+1)=((i+1:Nat):Int):=by rw[qH (by omega) (by omega)];omega
    have hil:i < (yB d).length:=by rw[zar];exact hi
    obtain ⟨A',e1,e2⟩:=ring_doc hrng (allN_w hl) (by rw[zar];omega) (z:=(d.members.length:Int)) (allN_up d i);have hgi:(yB d)[i]? = some ((yB d).getD i []):=by rw[List.getD_eq_getElem?_getD,getElem?_eq_getElem hil];rfl
    simp only[zfO];rw[zm,if_pos (by omega),zp ⟨by omega,by omega⟩,toNat_natCast,hgi];simp only[zk];rw[qp,e1];simp only[qb];rw[e2];simp only[zk];unfold zcv;rw[zm];by_cases c:zct (yB d) i=some true
    ·rw[if_pos c,if_pos c];rfl
    ·rw[if_neg c,if_neg c];simp only[jw,e4,map_none]) (fun _=>by
    simp only[zfO];rw[zm,if_neg (by rw[zar];omega)]
    rfl)
   rw[qp,show (0:Int)=((0:Nat):Int) from rfl,L2,qc];cases hs2:(List.range d.members.length).findSome? (fun i=>(zcv d i).map fun e=>((i:Int),e)) with
   | some r =>
    have hr:r.2≠0:=by
     obtain ⟨i,_,hi⟩:=List.exists_of_findSome?_eq_some hs2;obtain ⟨e,he,rfl⟩:=Option.map_eq_some_iff.1 hi;unfold zcv at he;split at he
     ·cases he;show (8:Int)≠0;decide
     ·cases he
    simp only[map_some,jn_r];rw[if_neg (show ¬ r.2=((0:Nat):Int) from hr)]
   | none=>rfl
 ·rw[if_pos h0,show qE d=zH d from if_pos h0,if_neg h0]
end
end
section
section
variable {n:List (List Int)} (hr:Rng n) (hn:n.length<=100000) (hw:∀ i,(n.getD i []).length<=100000)
include hr hn hw
end
def zcu (o:List Dim) (i:Nat):Option (Int×Int×Int):=match o[i]? with
 | some d=>if ¬ (qE d).2=0 then some ((i:Int),(qE d).1,(qE d).2) else none
 | none=>none
def zeI (o:List Dim):Int×Int×Int:=if ¬ (ja o).2.2=0 then ja o else match (List.range o.length).findSome? (zcu o) with
 | some r=>r
 | none=>(-1, -1,0)
theorem ruleF_ne {o:List Dim} {i:Nat} {r:Int×Int×Int} (h:zcu o i=some r):¬ r.2.2=0:=by
 unfold zcu at h;split at h
 ·split at h
  ·rename_i c;cases h;exact c
  ·cases h
 ·cases h
theorem P319_eq (o:List Dim):P319 o=some (zeI o):=by
 simp only[P319,S319,P94_eq,zk];rw[zm];unfold zeI;by_cases h0:(ja o).2.2=0
 ·obtain ok:=zcj.1 h0;have hl:=ok.len;rw[if_neg (fun h=>h h0),if_neg (fun h=>h h0)];have L:=q9 (B:=zfS P321 o) o.length (zcu o) (fun i hi=>by
   have hx:=getElem?_eq_getElem hi;simp only[zfS];rw[zm,if_pos (by omega)];simp only[za,hx,zk,P321_eq];unfold zcu;rw[hx,zm];simp only;rw[qH (by omega) (by omega)];by_cases c:(qE o[i]).2=0
   ·rw[if_neg (fun h=>h c),if_neg (fun h=>h c)];rfl
   ·rw[if_pos c,if_pos c]
    rfl) (by
   simp only[zfS];rw[zm,if_neg (by omega)]
   rfl)
  rw[qp,L];cases (List.range o.length).findSome? (zcu o)<;>rfl
 ·rw[if_pos h0,if_pos h0]
theorem P320_eq (o:List Dim):P320 o=some ((zeI o).1,(zeI o).2.1,zB (zeI o).2.2):=by
 simp only[P320,S320,P14_eq,zk,qu];unfold zeI;by_cases h0:(ja o).2.2=0
 ·obtain ok:=zcj.1 h0;have hl:=ok.len;rw[decide_eq_true h0,Bool.not_true,zg,if_neg (fun h=>h h0)];have L:=q9 (B:=zfR P315 o) o.length (fun i=>(zcu o i).map fun r=>(r.1,r.2.1,zB r.2.2)) (fun i hi=>by
   have hx:=getElem?_eq_getElem hi;simp only[zfR];rw[zm,if_pos (by omega)];simp only[za,hx,zk,P315_eq,qu];unfold zcu;rw[hx,qH (by omega) (by omega)];simp only;by_cases c:(qE o[i]).2=0
   ·rw[decide_eq_true c,if_neg (fun h=>h c)];rfl
   ·rw[decide_eq_false c,if_pos c]
    rfl) (by
   simp only[zfR];rw[zm,if_neg (by omega)]
   rfl)
  rw[qp,L,qc];cases (List.range o.length).findSome? (zcu o)<;>rfl
 ·rw[decide_eq_false h0,Bool.not_false,zo,if_pos h0]
theorem P352_eq (o:List Dim):P352 o=some (zB (zeI o).2.2):=by simp only[P352,S352,P320_eq,zk]
theorem P324_eq (o:List Dim):P324 o=some (zeI o).2.2:=by simp only[P324,S324,P319_eq,zk]
end
section
def nvN (s:ByteArray) (a:Nat):Nat->Nat
 | 0=>0
 | k+1=>nvN s a k * 10+(pk s (a+k) - 48)
theorem ziE {s:ByteArray} {a:Nat}:∀ (k:Nat),(∀ j,j < k->dgB (pk s (a+j))=true)->nvN s a k < 10 ^ k
 | 0,_=>by show 0 < 1;decide
 | k+1,h=>by
  have h1:=ziE k fun j hj=>h j (by omega);have h2:=h k (by omega);simp only[dgB,Bool.and_eq_true,decide_eq_true_eq] at h2;simp only[nvN,Nat.pow_succ];omega
theorem zio:∀ (ds:List UInt8) (acc k:Nat) (c:UInt8),(∀ c∈ds,48<=c.toNat∧c.toNat<=57)->48<=c.toNat∧c.toNat<=57->acc < 10 ^ k->k+ds.length+1<=15->∀ u,Lib.parseUint10 acc ds=.ok u->Lib.parseUint10 acc (ds++[c])=.ok (u * 10+(c.toNat - 48))
 | [],acc,k,c,_,hc,ha,hl,u,h=>by
  have hp:(10:Nat) ^ k<=10 ^ 15:=Nat.pow_le_pow_right (by decide) (by simp at hl;omega);have hq:(10:Nat) ^ 15=1000000000000000:=by decide
  simp only[Lib.parseUint10] at h;injection h with h;subst h;simp only[List.nil_append,Lib.parseUint10];rw[if_pos hc,if_neg (by omega),if_neg (by omega)]
 | d :: r,acc,k,c,hd,hc,ha,hl,u,h=>by
  obtain ⟨d1,d2⟩:=hd d (by simp);simp only[List.length_cons] at hl;have hp:(10:Nat) ^ k<=10 ^ 15:=Nat.pow_le_pow_right (by decide) (by omega);have hs:(10:Nat) ^ (k+1)=10 ^ k * 10:=Nat.pow_succ ..;have hq:(10:Nat) ^ 15=1000000000000000:=by decide
  simp only[List.cons_append,Lib.parseUint10] at h ⊢;rw[if_pos ⟨d1,d2⟩,if_neg (by omega),if_neg (by omega)] at h ⊢;exact zio r _ (k+1) c (fun c hc=>hd c (List.mem_cons_of_mem _ hc)) hc (by omega) (by omega) u h
theorem nv_uint {s:ByteArray} {a:Nat}:∀ (k:Nat),k<=14->(∀ j,j < k->dgB (pk s (a+j))=true)->Lib.parseUint10 0 (s.extract a (a+k)).data.toList=.ok (nvN s a k)
 | 0,_,_=>by
  rw[wm];simp[Lib.parseUint10,nvN]
 | k+1,hk,h=>by
  have ih:=nv_uint k (by omega) fun j hj=>h j (by omega);have hg:=h k (by omega);have hlt:=zcB hg;obtain ⟨p1,p2⟩:=zbC hlt;have e:(s.extract a (a+(k+1))).data.toList=(s.extract a (a+k)).data.toList++[s.data[a+k]'hlt]:=by
   rw[wm,wm,show a+(k+1) - a=k+1 by omega,show a+k - a=k by omega,take_add_one,List.getElem?_drop,Array.getElem?_toList,p1];rfl
  have hdig:∀ c∈(s.extract a (a+k)).data.toList,48<=c.toNat∧c.toNat<=57:=fun c hc=>by
   rw[wm,show a+k - a=k by omega] at hc;obtain ⟨j,hj,rfl⟩:=List.getElem_of_mem hc;have hj':j < k:=by
    rw[length_take] at hj;omega
   have hd:=h j (by omega);have hjl:=zcB hd;rw[(zbC hjl).2] at hd;simp only[List.getElem_take,List.getElem_drop,Array.getElem_toList];simpa[dgB] using hd
  have hc:48<=(s.data[a+k]'hlt).toNat∧(s.data[a+k]'hlt).toNat<=57:=by
   rw[p2] at hg;simpa[dgB] using hg
  have hlen:(s.extract a (a+k)).data.toList.length<=k:=by
   rw[wm,length_take];omega
  rw[e,zio _ 0 0 _ hdig hc (by decide) (by omega) _ ih];simp only[nvN,p2]
theorem nv_atoi {s:ByteArray} {a k:Nat} (h0:0 < k) (hk:k<=14) (h:∀ j,j < k->dgB (pk s (a+j))=true):(zbZ (s.extract a (a+k))).1=(nvN s a k:Int):=by
 have hu:=nv_uint k hk h;have hlt:=ziE k h;have hd0:=h 0 h0;rw[Nat.add_zero] at hd0;have hl:=zcB hd0;obtain ⟨p1,p2⟩:=zbC hl;have e3:(10:Nat) ^ k<=10 ^ 15:=Nat.pow_le_pow_right (by decide) (by omega);have e4:(10:Nat) ^ 15=1000000000000000:=by decide
 have e:∃ r,(s.extract a (a+k)).data.toList=s.data[a]'hl :: r:=by
  obtain ⟨m,rfl⟩:∃ m,k=m+1:=⟨k - 1,by omega⟩;rw[wm,show a+(m+1) - a=m+1 by omega];rw[List.drop_eq_getElem_cons (by show a < s.size;exact hl),List.take_succ_cons];exact ⟨_,rfl⟩
 obtain ⟨r,hr⟩:=e;rw[hr] at hu;have hc:48<=(s.data[a]'hl).toNat∧(s.data[a]'hl).toNat<=57:=by
  rw[p2] at hd0;simpa[dgB] using hd0
 unfold zbZ;have:Lib.atoiAll (s.extract a (a+k)).data.toList=.ok (nvN s a k:Int):=by
  rw[hr];simp only[Lib.atoiAll,Lib.parseMag];rw[if_neg (show ¬ ((s.data[a]'hl).toNat=43∨(s.data[a]'hl).toNat=45) by omega),if_neg (by simp),hu];simp only;rw[if_neg (by omega),if_neg (by omega),if_neg (by omega)]
 rw[this]
end
end Ab
