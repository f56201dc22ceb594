import Derived.Test.YtchidgkpkhloeaaGreatDoorH9
import Derived.Test.YtchidgkpkhloeaaGreatDoorMRr
import Derived.Test.YtchidgkpkhloeaaGreatDoorE2
import Derived.Test.YtchidgkpkhloeaaGreatDoorF2
section
namespace Ab
open Go
set_option linter.unusedVariables false
set_option linter.unusedSimpArgs false
theorem P100_eq {d:Dim} (hl:d.members.length≤1000) (i:Int):P100 d i=some (partsOf d.members i):=by
 simp only [P100,S100,lp_eq]
 rw [idxs_loop (isPart d.members i) d.members.length (fun k acc hk ha => ?_) (fun acc=>by simp [S100_L1])]
 ·rfl
 ·have e:((k:Nat):Int) < ((d.members.length:Nat):Int):=by omega
  have hr:acc.length+1≤roomA:=by unfold roomA;omega
  simp only [S100_L1,e,decide_true,br_true,lookI_nat,List.getElem?_eq_getElem hk,bno_s,isPart,List.length_singleton,ck_pos hr,inlO_s,nxO_s]
  rw [wiid (by omega) (by omega)]
  by_cases h:(d.members[k]).parent=i<;>simp [h]
end Ab
end
section
namespace Ab
open Go
set_option linter.unusedVariables false
set_option linter.unusedSimpArgs false
theorem insI_len {l:List Int} {n:Int}:(insI l n).length≤l.length+1∧(n ∉ l→(insI l n).length=l.length+1):=by
 obtain ⟨w1,w2,w3⟩:=takeWI (fun a=>decide (a < n)) l
 unfold insI
 generalize (l.takeWhile fun a=>decide (a < n)).length=k at *
 simp only
 by_cases hk:l[k]? = some n
 ·rw [if_pos hk]
  exact ⟨by omega,fun h=>absurd (List.mem_of_getElem? hk) h⟩
 ·rw [if_neg hk]
  simp only [List.length_append,List.length_take,List.length_drop,List.length_singleton]
  omega
theorem P347_eq (l:List Int) (n:Int) (h:l.length≤1000000):P347 l n=some (insI l n):=by
 obtain ⟨t1,t2,t3⟩:=takeWI (fun a=>decide (a < n)) l
 have hi:insI l n=if l[(l.takeWhile fun a=>decide (a < n)).length]? = some n then l else l.take (l.takeWhile fun a=>decide (a < n)).length++[n]++l.drop (l.takeWhile fun a=>decide (a < n)).length:=rfl
 rw [hi]
 generalize (l.takeWhile fun a=>decide (a < n)).length=k at *
 have hs:=seq_loop (B:=S347_L1 l n) (fun i=>(i:Int)) k (fun i hi=>by
  have hx:=List.getElem?_eq_getElem (show i < l.length by omega)
  have hp:l[i] < n:=of_decide_eq_true (t1 _ (List.mem_of_getElem? (i:=i) (by rw [List.getElem?_take,if_pos hi,hx])))
  have e4:wi ((i:Int)+1)=((i+1:Nat):Int):=by rw [wiid (by omega) (by omega)];omega
  simp only [S347_L1]
  rw [br_dec,if_pos (by omega)]
  simp only [lookI_nat,hx,bno_s,inlO_s,jn_l]
  rw [br_dec,if_pos hp,e4]
  rfl)
 have hend:lpO (S347_L1 l n) (0:Int)=some (.inl (k:Int)):=by
  rw [show (0:Int)=((0:Nat):Int) from rfl,hs]
  refine lpO_dn ?_
  simp only [S347_L1]
  by_cases hk:k < l.length
  ·have hx:=List.getElem?_eq_getElem hk
   have hp:¬ l[k] < n:=of_decide_eq_false (t2 _ hx)
   rw [br_dec,if_pos (by omega)]
   simp only [lookI_nat,hx,bno_s,inlO_s,jn_l]
   rw [br_dec,if_neg hp]
   rfl
  ·rw [br_dec,if_neg (by omega)]
   rfl
 simp only [P347,S347,lp_eq,hend,jn_l]
 have tail:∀ (hk:k≤l.length),(ck (decide (0≤(0:Int)∧(0:Int)≤(k:Int)∧(k:Int)≤((List.length l:Nat):Int))) <|
   ck (decide (List.length (List.take (Int.toNat (k:Int) - Int.toNat (0:Int)) (List.drop (Int.toNat (0:Int)) l))≤roomA)) <|
   ck (decide (List.length (List.take (Int.toNat (k:Int) - Int.toNat (0:Int)) (List.drop (Int.toNat (0:Int)) l))+List.length ([n]:List Int)≤roomA)) <|
   ck (decide (0≤(k:Int)∧(k:Int)≤((List.length l:Nat):Int)∧((List.length l:Nat):Int)≤((List.length l:Nat):Int))) <|
   ck (decide (List.length ((List.take (Int.toNat (k:Int) - Int.toNat (0:Int)) (List.drop (Int.toNat (0:Int)) l))++([n]:List Int))+List.length (List.take (Int.toNat ((List.length l:Nat):Int) - Int.toNat (k:Int)) (List.drop (Int.toNat (k:Int)) l))≤roomA)) <|
   some (((List.take (Int.toNat (k:Int) - Int.toNat (0:Int)) (List.drop (Int.toNat (0:Int)) l))++([n]:List Int))++(List.take (Int.toNat ((List.length l:Nat):Int) - Int.toNat (k:Int)) (List.drop (Int.toNat (k:Int)) l))))=some (l.take k++[n]++l.drop k):=by
  intro hk
  have e0:Int.toNat (0:Int)=0:=rfl
  rw [e0,Int.toNat_natCast,Int.toNat_natCast,List.drop_zero,Nat.sub_zero,List.take_of_length_le (show (l.drop k).length≤l.length - k by rw [List.length_drop];exact Nat.le_refl _)]
  rw [ck_pos (by omega),ck_pos (by rw [List.length_take];unfold roomA;omega),ck_pos (by rw [List.length_take,List.length_singleton];unfold roomA;omega),ck_pos (by omega),ck_pos (by rw [List.length_append,List.length_take,List.length_singleton,List.length_drop];unfold roomA;omega)]
 rw [tail t3]
 by_cases hk:k < l.length
 ·have hx:=List.getElem?_eq_getElem hk
  rw [br_dec,if_pos (by omega)]
  simp only [lookI_nat,hx,bno_s,inlO_s,jn_l]
  rw [br_dec]
  by_cases e:l[k]=n
  ·rw [if_pos e,if_pos (by rw [e])]
  ·rw [if_neg e,if_neg (fun h=>e (Option.some.inj h))]
 ·rw [br_dec,if_neg (by omega)]
  simp only [inlO_s,jn_l,br_false]
  rw [if_neg (by rw [List.getElem?_eq_none (by omega)];simp)]
theorem P348_eq (l:List Int) (n:Int) (h:l.length≤9223372036854775807):P348 l n=some (hasI l n):=by
 simp only [P348,S348]
 have h1:=any_loop (B:=S348_L1 l n) (fun y=>decide (y=n)) l true false (fun i y hy=>by
  have hi:=(List.getElem?_eq_some_iff.1 hy).1
  simp only [S348_L1]
  rw [br_dec,if_pos (by omega)]
  simp only [lookI_nat,hy,bno_s]
  rw [wiid (by omega) (by omega),br_dec]
  by_cases c:y=n<;>simp [c]) (by
  simp only [S348_L1]
  rw [br_dec,if_neg (by omega)]
  rfl)
 rw [h1]
 unfold hasI
 cases (l.any fun y=>decide (y=n))<;>rfl
section
variable {n:List (List Int)}
structure Bel (n:List (List Int)) (i:Nat) (A:List Int):Prop where
 up:A.Pairwise (· < ·)
 rng:∀ x∈A,0≤x∧x < n.length
 re:∀ x∈A,Reach n i x.toNat
 one:∀ x∈n.getD i [],x∈A
theorem bel_len {i:Nat} {A:List Int} (h:Bel n i A):A.length≤n.length:=by
 have h1:(A.map Int.toNat).Nodup:=by
  rw [List.Nodup,List.pairwise_map]
  refine List.Pairwise.imp_of_mem ?_ h.up
  intro a b ha hb hab
  have:=h.rng a ha
  have:=h.rng b hb
  omega
 have:=nodupN_sub _ (List.range n.length) h1 (fun x hx=>by
  obtain ⟨y,hy,rfl⟩:=List.mem_map.1 hx
  have:=h.rng y hy
  exact List.mem_range.2 (by omega))
 rwa [List.length_map,List.length_range] at this
theorem bel_ins (hr:Rng n) {i:Nat} {A:List Int} (h:Bel n i A) {x y:Int} (hx:x∈A) (hy:y∈n.getD x.toNat []):Bel n i (insI A y):=by
 obtain ⟨k1,k2⟩:=insI_ok (n:=y) h.up
 have hry:=hr x.toNat y hy
 refine ⟨k1,fun z hz => ?_,fun z hz => ?_,fun z hz=>(k2 z).2 (.inl (h.one z hz))⟩
 ·rcases (k2 z).1 hz with hz | rfl
  ·exact h.rng z hz
  ·exact hry
 ·rcases (k2 z).1 hz with hz | rfl
  ·exact h.re z hz
  ·exact (h.re x hx).snoc (List.mem_map.2 ⟨_,hy,rfl⟩)
theorem inner4 (hr:Rng n) (hw:∀ k,(n.getD k []).length≤1000) (hn:n.length≤1000) {z:Int} {i:Nat} {A:List Int} (h:Bel n i A) (ag:Bool) {k:Nat} (hk:k < A.length) :
  ∃ r,lpO (S321_L4 P347 P348 (n,z) (A,ag,(k:Int))) (A,ag,(0:Int))=some r∧∃ j,(r=.inl (A,ag,j)∧∀ y∈n.getD (A[k]).toNat [],y∈A)∨∃ y,r=.inl (insI A y,true,j)∧y∈n.getD (A[k]).toNat []∧y ∉ A:=by
 have hkm:=h.rng _ (List.getElem_mem hk)
 have hx:=List.getElem?_eq_getElem hk
 have hlt:(A[k]).toNat < n.length:=by omega
 have hg:n[(A[k]).toNat]? = some (n.getD (A[k]).toNat []):=by rw [List.getD_eq_getElem?_getD,List.getElem?_eq_getElem hlt];rfl
 have hwk:=hw (A[k]).toNat
 have hal:=bel_len h
 generalize hrow:n.getD (A[k]).toNat []=row at *
 have:=lpO_rule (B:=S321_L4 P347 P348 (n,z) (A,ag,(k:Int))) (fun x=>x.1=A∧x.2.1=ag∧∃ j:Nat,x.2.2=j∧j≤row.length∧∀ y∈row.take j,y∈A) (fun x=>row.length - x.2.2.toNat)
  (fun r=>∃ j,(r=.inl (A,ag,j)∧∀ y∈row,y∈A)∨∃ y,r=.inl (insI A y,true,j)∧y∈row∧y ∉ A) (fun x hI=>by
   obtain ⟨x1,x2,x3⟩:=x
   obtain ⟨hA1,hA2,j,hj0,hj,hin⟩:=hI
   simp only at hA1 hA2 hj0 hin
   subst hA1 hA2 hj0
   simp only
   have hB:S321_L4 P347 P348 (n,z) (x1,x2,(k:Int)) (x1,x2,(j:Int))=(match row[j]? with
     | some y=>if hasI x1 y=true then some (.nx (x1,x2,((j+1:Nat):Int))) else some (.dn (insI x1 y,true,(j:Int)))
     | none=>some (.dn (x1,x2,(j:Int)))):=by
    simp only [S321_L4,lookI_nat,hx,bno_s]
    rw [ck_pos ⟨hkm.1,hkm.2⟩,hg]
    simp only [bno_s]
    by_cases c:j < row.length
    ·have hy:=List.getElem?_eq_getElem c
     rw [br_dec,if_pos (by omega),ck_pos ⟨hkm.1,hkm.2⟩,hy]
     simp only [bno_s,P348_eq x1 _ (show x1.length≤9223372036854775807 by omega),P347_eq x1 _ (show x1.length≤1000000 by omega)]
     rw [ck_pos ⟨hkm.1,hkm.2⟩]
     have e4:wi ((j:Int)+1)=((j+1:Nat):Int):=by rw [wiid (by omega) (by omega)];omega
     rw [e4]
     cases hasI x1 row[j]<;>rfl
    ·rw [br_dec,if_neg (by omega),List.getElem?_eq_none (by omega)]
     rfl
   rw [hB]
   cases hy:row[j]? with
   | none =>
    simp only
    have:=List.getElem?_eq_none_iff.1 hy
    exact ⟨_,.inl ⟨rfl,fun y hy=>hin y (by rw [List.take_of_length_le this];exact hy)⟩⟩
   | some y =>
    have hjl:=(List.getElem?_eq_some_iff.1 hy).1
    by_cases c:hasI x1 y=true
    ·simp only [if_pos c]
     refine ⟨⟨trivial,trivial,j+1,rfl,by omega,fun y' hy' => ?_⟩,by rw [Int.toNat_natCast,Int.toNat_natCast];omega⟩
     rw [List.take_add_one,hy] at hy'
     rcases List.mem_append.1 hy' with hy' | hy'
     ·exact hin y' hy'
     ·simp at hy'
      subst hy'
      exact hasI_mem.1 c
    ·simp only [if_neg c]
     exact ⟨_,.inr ⟨y,rfl,List.mem_of_getElem? hy,fun h=>c (hasI_mem.2 h)⟩⟩) (A,ag,(0:Int)) ⟨rfl,rfl,0,rfl,by omega,by simp⟩
 exact this
theorem inner5 (hr:Rng n) (hw:∀ k,(n.getD k []).length≤1000) (hn:n.length≤1000) {z:Int} {i:Nat} {A:List Int} (h:Bel n i A) :
  ∃ r,lpO (S321_L5 P347 P348 (n,z)) (A,false,(0:Int))=some r∧∃ A' ag j,r=.inl (A',ag,j)∧Bel n i A'∧(ag=false→∀ x∈A',∀ y∈n.getD x.toNat [],y∈A')∧(ag=true→A.length < A'.length)∧A.length≤A'.length:=by
 refine lpO_rule (B:=S321_L5 P347 P348 (n,z)) (fun x=>Bel n i x.1∧(∃ k:Nat,x.2.2=k∧k≤x.1.length∧(x.2.1=false→∀ c∈x.1.take k,∀ y∈n.getD c.toNat [],y∈x.1))∧(x.2.1=true→A.length < x.1.length)∧A.length≤x.1.length) (fun x=>n.length - x.2.2.toNat)
  (fun r=>∃ A' ag j,r=.inl (A',ag,j)∧Bel n i A'∧(ag=false→∀ x∈A',∀ y∈n.getD x.toNat [],y∈A')∧(ag=true→A.length < A'.length)∧A.length≤A'.length) (fun x hI => ?_) (A,false,(0:Int)) ⟨h,⟨0,rfl,by omega,by simp⟩,by simp,Nat.le_refl _⟩
 obtain ⟨B,ag,k'⟩:=x
 obtain ⟨hB,⟨k,hk',hk,hcl⟩,hgr,hge⟩:=hI
 simp only at hB hk' hk hcl hgr hge
 subst hk'
 have hbl:=bel_len hB
 simp only [S321_L5]
 by_cases c:k < B.length
 ·obtain ⟨r,e1,j,e2⟩:=inner4 hr hw hn (z:=z) hB ag c
  have e4:wi ((k:Int)+1)=((k+1:Nat):Int):=by rw [wiid (by omega) (by omega)];omega
  rw [br_dec,if_pos (by omega),lp_eq,e1]
  rcases e2 with ⟨rfl,e3⟩ | ⟨y,rfl,e3,e5⟩
  ·simp only [jn_l,nxO_s,e4]
   refine ⟨⟨hB,⟨k+1,rfl,by omega,fun hag x hx y hy => ?_⟩,hgr,hge⟩,by rw [Int.toNat_natCast,Int.toNat_natCast];omega⟩
   rw [List.take_add_one,List.getElem?_eq_getElem c] at hx
   rcases List.mem_append.1 hx with hx | hx
   ·exact hcl hag x hx y hy
   ·simp at hx
    subst hx
    exact e3 y hy
  ·simp only [jn_l,nxO_s,e4]
   have hl:=(insI_len (l:=B) (n:=y)).2 e5
   exact ⟨⟨bel_ins hr hB (List.getElem_mem c) e3,⟨k+1,rfl,by omega,by simp⟩,fun _=>by omega,by omega⟩,by rw [Int.toNat_natCast,Int.toNat_natCast];omega⟩
 ·rw [br_dec,if_neg (by omega)]
  simp only [dnO_s]
  refine ⟨B,ag,_,rfl,hB,fun hag x hx=>hcl hag x (by rw [List.take_of_length_le (by omega)];exact hx),hgr,hge⟩
theorem inner6 (hr:Rng n) (hw:∀ k,(n.getD k []).length≤1000) (hn:n.length≤1000) {z:Int} {i:Nat} {A:List Int} (h:Bel n i A) :
  ∃ r,lpO (S321_L6 P347 P348 (n,z)) (A,true)=some r∧∃ A',r=.inl (A',false)∧Bel n i A'∧∀ x∈A',∀ y∈n.getD x.toNat [],y∈A':=by
 refine lpO_rule (B:=S321_L6 P347 P348 (n,z)) (fun x=>Bel n i x.1∧(x.2=false→∀ c∈x.1,∀ y∈n.getD c.toNat [],y∈x.1)) (fun x=>2 * (n.length - x.1.length)+(if x.2=true then 1 else 0))
  (fun r=>∃ A',r=.inl (A',false)∧Bel n i A'∧∀ x∈A',∀ y∈n.getD x.toNat [],y∈A') (fun x hI => ?_) (A,true) ⟨h,by simp⟩
 obtain ⟨B,ag⟩:=x
 obtain ⟨hB,hcl⟩:=hI
 simp only at hB hcl
 cases ag with
 | false =>
  simp only [S321_L6,br_false,dnO_s]
  exact ⟨B,rfl,hB,hcl rfl⟩
 | true =>
  obtain ⟨r,e1,A',ag',j,rfl,e3,e4,e5,e6⟩:=inner5 hr hw hn (z:=z) hB
  simp only [S321_L6,br_true,lp_eq]
  rw [e1]
  simp only [jn_l,nxO_s]
  have hl:=bel_len e3
  refine ⟨⟨e3,e4⟩, ?_⟩
  cases ag' with
  | false=>simp only [Bool.false_eq_true,if_false,if_true];omega
  | true =>
   have:=e5 rfl
   simp only [if_true]
   omega
theorem ring_doc (hr:Rng n) (hw:∀ k,(n.getD k []).length≤1000) (hn:n.length≤1000) {z:Int} {i:Nat} (hup:(n.getD i []).Pairwise (· < ·)) :
  ∃ A',lpO (S321_L6 P347 P348 (n,z)) (n.getD i [],true)=some (.inl (A',false))∧P348 A' (i:Int)=some (decide (selfN n i=some true)):=by
 obtain ⟨r,e1,A',rfl,e3,e4⟩:=inner6 hr hw hn (z:=z) (i:=i) (A:=n.getD i []) ⟨hup,hr i,fun x hx=>.one (List.mem_map.2 ⟨x,hx,rfl⟩),fun x hx=>hx⟩
 refine ⟨A',e1, ?_⟩
 have hl:=bel_len e3
 rw [P348_eq A' _ (by omega)]
 congr 1
 have:hasI A' (i:Int)=true↔selfN n i=some true:=by
  rw [hasI_mem,selfN_iff hr]
  constructor
  ·intro h
   have:=e3.re _ h
   rwa [Int.toNat_natCast] at this
  ·intro h
   have key:=reach_closed (S:=fun j=>((j:Nat):Int)∈A') (n:=n) (fun j hj k hk=>by
    obtain ⟨x,hx,rfl⟩:=List.mem_map.1 hk
    have h0:=(hr j x hx).1
    rw [show ((x.toNat:Nat):Int)=x by omega]
    exact e4 _ hj x (by rw [Int.toNat_natCast];exact hx)) h
   exact key fun k hk=>by
    obtain ⟨x,hx,rfl⟩:=List.mem_map.1 hk
    have h0:=(hr i x hx).1
    rw [show ((x.toNat:Nat):Int)=x by omega]
    exact e3.one x hx
 cases hb:hasI A' (i:Int) with
 | true=>rw [decide_eq_true (this.1 hb)]
 | false=>rw [decide_eq_false fun h=>by rw [this.2 h] at hb;cases hb]
end
theorem fold_len:∀ (l acc:List Int),(l.foldl insI acc).length≤acc.length+l.length
 | [],acc=>by simp
 | a :: r,acc=>by
  have h1:=fold_len r (insI acc a)
  have h2:=(insI_len (l:=acc) (n:=a)).1
  simp only [List.foldl_cons,List.length_cons]
  omega
section
variable {d:Dim}
theorem has_setI {l:List Int}:hasI (setI l) (-1)=true↔(-1:Int)∈l:=by rw [hasI_mem];exact (setI_ok l).2 (-1)
def refG {γ:Type} (d:Dim) (l:List Node) (e:γ) (j:Nat):Option γ:=match l[j]? with
 | some x=>if x.op=2∧whereM d.members x.name < 0 then some e else none
 | none=>none
theorem refG_find {γ:Type} (l:List Node) (e:γ):(List.range l.length).findSome? (refG d l e)=if hasI (setI ((refL l).map (whereM d.members))) (-1)=true then some e else none:=by
 cases hf:(List.range l.length).findSome? (refG d l e) with
 | some r =>
  obtain ⟨j,_,hj⟩:=List.exists_of_findSome?_eq_some hf
  unfold refG at hj
  split at hj
  ·rename_i x hx
   split at hj
   ·rename_i c
    have hm:hasI (setI ((refL l).map (whereM d.members))) (-1)=true:=by
     rw [has_setI]
     refine List.mem_map.2 ⟨x.name,List.mem_map.2 ⟨x,List.mem_filter.2 ⟨List.mem_of_getElem? hx,by simpa using c.1⟩,rfl⟩, ?_⟩
     have:=whereM_range d.members x.name
     omega
    rw [if_pos hm,hj]
   ·cases hj
  ·cases hj
 | none =>
  have hnone:=List.findSome?_eq_none_iff.1 hf
  have hm:¬ hasI (setI ((refL l).map (whereM d.members))) (-1)=true:=by
   rw [has_setI]
   intro hm
   obtain ⟨s,hs,hw⟩:=List.mem_map.1 hm
   obtain ⟨x,hx,rfl⟩:=List.mem_map.1 hs
   obtain ⟨hx1,hx2⟩:=List.mem_filter.1 hx
   obtain ⟨j,hj⟩:=List.getElem?_of_mem hx1
   have:=hnone j (List.mem_range.2 (List.getElem?_eq_some_iff.1 hj).1)
   unfold refG at this
   rw [hj] at this
   simp only at this
   rw [if_pos ⟨by simpa using hx2,by omega⟩] at this
   cases this
  rw [if_neg hm]
theorem refs_doc (hl:d.members.length≤1000) {l:List Node} (h30:l.length≤1000) (x2:List (List Int)×Int) (y5:List Node×Int×Int) (hy:y5.1=l) :
  lpO (S321_L1 P347 P96 d x2 y5) (([]:List Int),(0:Int))=some (if hasI (setI ((refL l).map (whereM d.members))) (-1)=true then .inr (.inr (.fin (([]:List (List Int)),x2.2,(5:Int)))) else .inl (setI ((refL l).map (whereM d.members)),(l.length:Int))):=by
 have hs:=stop_loop (B:=S321_L1 P347 P96 d x2 y5) (fun j=>(((refL (l.take j)).map (whereM d.members)).foldl insI [],(j:Int))) l.length
  (refG d l (Sum.inr (LR.fin (([]:List (List Int)),x2.2,(5:Int)))))
  (d:=(setI ((refL l).map (whereM d.members)),(l.length:Int))) (fun j hj _=>by
   have hx:=List.getElem?_eq_getElem hj
   have e4:wi ((j:Int)+1)=((j+1:Nat):Int):=by rw [wiid (by omega) (by omega)];omega
   have hb:(((refL (l.take j)).map (whereM d.members)).foldl insI []).length≤1000:=by
    refine Nat.le_trans (fold_len _ _) ?_
    have:=refL_len (l.take j)
    rw [List.length_take] at this
    rw [List.length_map]
    simp only [List.length_nil]
    omega
   unfold refG
   simp only [S321_L1,hy]
   rw [br_dec,if_pos (by omega),hx]
   simp only [lookI_nat,hx,bno_s]
   rw [refL_take_succ hx,br_dec]
   by_cases c:l[j].op=2
   ·rw [if_neg (fun h=>h c),if_pos c,P96_eq d _ (by omega)]
    simp only [bno_s]
    rw [br_dec]
    by_cases c2:whereM d.members l[j].name < 0
    ·rw [if_pos c2,if_pos ⟨c,c2⟩]
     rfl
    ·rw [if_neg c2,if_neg (fun h=>c2 h.2),P347_eq _ _ (by omega)]
     simp only [bno_s,inlO_s,jn_l,nxO_s,e4,List.map_append,List.foldl_append]
     rfl
   ·rw [if_pos c,if_neg c,if_neg (fun h=>c h.1)]
    simp only [inlO_s,jn_l,nxO_s,e4,List.append_nil]) (fun _=>by
   simp only [S321_L1,hy]
   rw [br_dec,if_neg (by omega),List.take_length,fold_setI]
   rfl)
 have e0:(([]:List Int),(0:Int))=(((refL (l.take 0)).map (whereM d.members)).foldl insI [],((0:Nat):Int)):=rfl
 rw [e0,hs,refG_find]
 by_cases c:hasI (setI ((refL l).map (whereM d.members))) (-1)=true
 ·rw [if_pos c,if_pos c]
 ·rw [if_neg c,if_neg c]
theorem parts_doc (hl:d.members.length≤1000) (ps:List Int) (hp:∀ x∈ps,∃ k:Nat,x=k∧k < d.members.length) (hn:ps.length≤1000) :
  lpO (S321_L2 P347 d ps) (([]:List Int),(0:Int))=some (.inl (setI (ps.filter (fun k=>decide (¬ sgn d.members k=0))),(ps.length:Int))):=by
 have hs:=seq_loop (B:=S321_L2 P347 d ps) (fun j=>(((ps.take j).filter (fun k=>decide (¬ sgn d.members k=0))).foldl insI [],(j:Int))) ps.length (fun j hj=>by
   have hx:=List.getElem?_eq_getElem hj
   obtain ⟨k,hk,hkm⟩:=hp _ (List.getElem_mem hj)
   have e4:wi ((j:Int)+1)=((j+1:Nat):Int):=by rw [wiid (by omega) (by omega)];omega
   have hb:(((ps.take j).filter (fun k=>decide (¬ sgn d.members k=0))).foldl insI []).length≤1000:=by
    refine Nat.le_trans (fold_len _ _) ?_
    have:=List.length_filter_le (fun k=>decide (¬ sgn d.members k=0)) (ps.take j)
    rw [List.length_take] at this
    simp only [List.length_nil]
    omega
   have hg:=List.getElem?_eq_getElem hkm
   have hsg:sgn d.members ps[j]=(d.members[k]).sign:=by unfold sgn;rw [hk,Int.toNat_natCast,hg]
   have htk:ps.take (j+1)=ps.take j++[ps[j]]:=by rw [List.take_add_one,hx];rfl
   simp only [S321_L2]
   rw [br_dec,if_pos (by omega)]
   simp only [lookI_nat,hx,bno_s]
   rw [hk,lookI_nat,hg]
   simp only [bno_s]
   rw [br_dec,htk,List.filter_append]
   by_cases c:(d.members[k]).sign=0
   ·rw [if_neg (fun h=>h c)]
    simp only [inlO_s,jn_l,nxO_s,e4]
    rw [show List.filter (fun k=>decide (¬ sgn d.members k=0)) [ps[j]]=[] by rw [List.filter_cons_of_neg (by rw [hsg,c];decide)];rfl,List.append_nil]
   ·rw [if_pos c,P347_eq _ _ (by omega)]
    simp only [bno_s,inlO_s,jn_l,nxO_s,e4]
    rw [show List.filter (fun k=>decide (¬ sgn d.members k=0)) [ps[j]]=[ps[j]] by rw [List.filter_cons_of_pos (by rw [hsg];exact decide_eq_true c)];rfl,List.foldl_append,hk]
    rfl)
 have e0:(([]:List Int),(0:Int))=(((ps.take 0).filter (fun k=>decide (¬ sgn d.members k=0))).foldl insI [],((0:Nat):Int)):=rfl
 rw [e0,hs,List.take_length,fold_setI]
 refine lpO_dn ?_
 simp only [S321_L2]
 rw [br_dec,if_neg (by omega)]
 rfl
theorem allN_up (d:Dim) (i:Nat):((allN d).getD i []).Pairwise (· < ·):=by
 unfold allN
 simp only [List.getD_eq_getElem?_getD,List.getElem?_map]
 by_cases hi:i < d.members.length
 ·rw [List.getElem?_range hi]
  exact (setI_ok _).1
 ·rw [List.getElem?_eq_none (by rw [List.length_range];omega)]
  exact List.Pairwise.nil
theorem P321_eq (d:Dim):P321 d=some (if (rulesE d).2=0 then allN d else [],(rulesE d).1,(rulesE d).2):=by
 simp only [P321,S321,P95_eq,bno_s]
 rw [br_dec]
 by_cases h0:(dimErr d).2=0
 ·have ok:=dim_ok.1 h0
  obtain ⟨hl0,hl⟩:=ok.len
  rw [if_neg (fun h=>h h0),show rulesE d=rulesG d from if_neg (fun h=>h h0)]
  unfold rulesG
  have L1:=stop_loop (B:=S321_L3 P100 P247 P347 P96 d) (fun i=>((List.range i).map (needN d),(i:Int))) d.members.length (fun i=>((memF d i).map fun e=>((i:Int),e)).map fun r=>(([]:List (List Int)),r.1,r.2)) (d:=(allN d,(d.members.length:Int))) (fun i hi hg=>by
   have hx:=List.getElem?_eq_getElem hi
   have e4:wi ((i:Int)+1)=((i+1:Nat):Int):=by rw [wiid (by omega) (by omega)];omega
   have hroom:(List.length ((List.range i).map (needN d))+1≤roomA):=by rw [List.length_map,List.length_range];unfold roomA;omega
   simp only [S321_L3]
   rw [br_dec,if_pos (by omega)]
   simp only [lookI_nat,hx,bno_s]
   rw [br_dec]
   by_cases c:(d.members[i]).formula=⟨#[]⟩
   ·rw [if_neg (fun h=>h c),P100_eq (by omega)]
    have hneed:needN d i=setI (cntP2 d i):=by unfold needN rawN;rw [hx];simp only;rw [if_pos c]
    have hm:memF d i=none:=by
     unfold memF
     rw [hx]
     simp only
     rw [if_neg (fun h=>h.1 c),if_neg]
     rw [hneed,has_setI]
     intro h
     obtain ⟨k,e,_⟩:=parts_in (List.mem_filter.1 h).1
     omega
    simp only [bno_s]
    rw [lp_eq,parts_doc (by omega) _ (fun x hx=>parts_in hx) (Nat.le_trans (idxs_len _ _) (by omega)),hm]
    simp only [jn_l,inlO_s,Option.map_none]
    rw [show setI (List.filter (fun k=>decide (¬ sgn d.members k=0)) (partsOf d.members i))=needN d i from hneed.symm,ck_pos (by simp only [List.length_singleton];exact hroom),e4,List.range_succ,List.map_append]
    rfl
   ·rw [if_pos c,P247_eq]
    simp only [bno_s]
    rw [br_dec]
    by_cases c2:(rdT (d.members[i]).formula).2.2=0
    ·have hneed:needN d i=setI ((refL (rdT (d.members[i]).formula).1).map (whereM d.members)):=by unfold needN rawN;rw [hx];simp only;rw [if_neg c]
     have hm:memF d i=if hasI (needN d i) (-1)=true then some 5 else none:=by unfold memF;rw [hx];simp only;rw [if_neg (fun h=>h.2 c2)]
     rw [if_neg (fun h=>h c2),lp_eq,refs_doc (by omega) (Nat.le_trans (rdT_len _) (by omega)) _ _ rfl,hm,← hneed]
     by_cases c3:hasI (needN d i) (-1)=true
     ·rw [if_pos c3,if_pos c3]
      rfl
     ·rw [if_neg c3,if_neg c3]
      simp only [jn_l,inlO_s,Option.map_none]
      rw [ck_pos (by simp only [List.length_singleton];exact hroom),e4,List.range_succ,List.map_append]
      rfl
    ·have hm:memF d i=some (rdT (d.members[i]).formula).2.2:=by unfold memF;rw [hx];simp only;rw [if_pos ⟨c,c2⟩]
     rw [if_pos c2,hm]
     rfl) (fun _=>by
   simp only [S321_L3]
   rw [br_dec,if_neg (by omega)]
   rfl)
  have e0:(([]:List (List Int)),(0:Int))=((List.range 0).map (needN d),((0:Nat):Int)):=rfl
  rw [lp_eq,e0,L1,findSome_map]
  cases hs:(List.range d.members.length).findSome? (fun i=>(memF d i).map fun e=>((i:Int),e)) with
  | some r =>
   have hr:r.2≠0:=by
    obtain ⟨i,_,hi⟩:=List.exists_of_findSome?_eq_some hs
    obtain ⟨e,he,rfl⟩:=Option.map_eq_some_iff.1 hi
    exact memF_ne he
   simp only [Option.map_some,jn_r,if_neg hr]
  | none =>
   have hnone:∀ i,i < d.members.length→memF d i=none:=fun i hi=>by
    have:=List.findSome?_eq_none_iff.1 hs i (List.mem_range.2 hi)
    simpa using this
   have hrng:=allN_rng hnone
   simp only [Option.map_none,jn_l]
   have L2:=stop_loop (B:=S321_L7 P347 P348 (allN d,(d.members.length:Int))) (fun i=>(i:Int)) d.members.length (fun i=>((ringF d i).map fun e=>((i:Int),e)).map fun r=>(([]:List (List Int)),r.1,r.2)) (d:=((d.members.length:Nat):Int)) (fun i hi hg=>by
    have e4:wi ((i:Int)+1)=((i+1:Nat):Int):=by rw [wiid (by omega) (by omega)];omega
    have hil:i < (allN d).length:=by rw [allN_len];exact hi
    obtain ⟨A',e1,e2⟩:=ring_doc hrng (allN_w hl) (by rw [allN_len];omega) (z:=(d.members.length:Int)) (allN_up d i)
    have hgi:(allN d)[i]? = some ((allN d).getD i []):=by rw [List.getD_eq_getElem?_getD,List.getElem?_eq_getElem hil];rfl
    simp only [S321_L7]
    rw [br_dec,if_pos (by omega),ck_pos ⟨by omega,by omega⟩,Int.toNat_natCast,hgi]
    simp only [bno_s]
    rw [lp_eq,e1]
    simp only [jn_l]
    rw [e2]
    simp only [bno_s]
    unfold ringF
    rw [br_dec]
    by_cases c:selfN (allN d) i=some true
    ·rw [if_pos c,if_pos c]
     rfl
    ·rw [if_neg c,if_neg c]
     simp only [nxO_s,e4,Option.map_none]) (fun _=>by
    simp only [S321_L7]
    rw [br_dec,if_neg (by rw [allN_len];omega)]
    rfl)
   rw [lp_eq,show (0:Int)=((0:Nat):Int) from rfl,L2,findSome_map]
   cases hs2:(List.range d.members.length).findSome? (fun i=>(ringF d i).map fun e=>((i:Int),e)) with
   | some r =>
    have hr:r.2≠0:=by
     obtain ⟨i,_,hi⟩:=List.exists_of_findSome?_eq_some hs2
     obtain ⟨e,he,rfl⟩:=Option.map_eq_some_iff.1 hi
     unfold ringF at he
     split at he
     ·cases he
      show (8:Int)≠0
      decide
     ·cases he
    simp only [Option.map_some,jn_r]
    rw [if_neg (show ¬ r.2=((0:Nat):Int) from hr)]
   | none=>rfl
 ·rw [if_pos h0,show rulesE d=dimErr d from if_pos h0,if_neg h0]
end
end Ab
end
section
namespace Ab
open Go
set_option linter.unusedVariables false
set_option linter.unusedSimpArgs false
section
variable {n:List (List Int)} (hr:Rng n) (hn:n.length≤100000) (hw:∀ i,(n.getD i []).length≤100000)
include hr hn hw
end
noncomputable def ruleF (o:List Dim) (i:Nat):Option (Int×Int×Int):=match o[i]? with
 | some d=>if ¬ (rulesE d).2=0 then some ((i:Int),(rulesE d).1,(rulesE d).2) else none
 | none=>none
noncomputable def allE (o:List Dim):Int×Int×Int:=if ¬ (outErr o).2.2=0 then outErr o else match (List.range o.length).findSome? (ruleF o) with
 | some r=>r
 | none=>(-1, -1,0)
theorem ruleF_ne {o:List Dim} {i:Nat} {r:Int×Int×Int} (h:ruleF o i=some r):¬ r.2.2=0:=by
 unfold ruleF at h
 split at h
 ·split at h
  ·rename_i c
   cases h
   exact c
  ·cases h
 ·cases h
theorem P319_eq (o:List Dim):P319 o=some (allE o):=by
 simp only [P319,S319,P94_eq,bno_s]
 rw [br_dec]
 unfold allE
 by_cases h0:(outErr o).2.2=0
 ·obtain ok:=out_ok.1 h0
  have hl:=ok.len
  rw [if_neg (fun h=>h h0),if_neg (fun h=>h h0)]
  have L:=range_loop (B:=S319_L1 P321 o) o.length (ruleF o) (fun i hi=>by
   have hx:=List.getElem?_eq_getElem hi
   simp only [S319_L1]
   rw [br_dec,if_pos (by omega)]
   simp only [lookI_nat,hx,bno_s,P321_eq]
   unfold ruleF
   rw [hx,br_dec]
   simp only
   rw [wiid (by omega) (by omega)]
   by_cases c:(rulesE o[i]).2=0
   ·rw [if_neg (fun h=>h c),if_neg (fun h=>h c)]
    rfl
   ·rw [if_pos c,if_pos c]
    rfl) (by
   simp only [S319_L1]
   rw [br_dec,if_neg (by omega)]
   rfl)
  rw [lp_eq,L]
  cases (List.range o.length).findSome? (ruleF o)<;>rfl
 ·rw [if_pos h0,if_pos h0]
theorem P320_eq (o:List Dim):P320 o=some ((allE o).1,(allE o).2.1,errOf (allE o).2.2):=by
 simp only [P320,S320,P14_eq,bno_s,errOf_nil]
 unfold allE
 by_cases h0:(outErr o).2.2=0
 ·obtain ok:=out_ok.1 h0
  have hl:=ok.len
  rw [decide_eq_true h0,Bool.not_true,br_false,if_neg (fun h=>h h0)]
  have L:=range_loop (B:=S320_L1 P315 o) o.length (fun i=>(ruleF o i).map fun r=>(r.1,r.2.1,errOf r.2.2)) (fun i hi=>by
   have hx:=List.getElem?_eq_getElem hi
   simp only [S320_L1]
   rw [br_dec,if_pos (by omega)]
   simp only [lookI_nat,hx,bno_s,P315_eq,errOf_nil]
   unfold ruleF
   rw [hx,wiid (by omega) (by omega)]
   simp only
   by_cases c:(rulesE o[i]).2=0
   ·rw [decide_eq_true c,if_neg (fun h=>h c)]
    rfl
   ·rw [decide_eq_false c,if_pos c]
    rfl) (by
   simp only [S320_L1]
   rw [br_dec,if_neg (by omega)]
   rfl)
  rw [lp_eq,L,findSome_map]
  cases (List.range o.length).findSome? (ruleF o)<;>rfl
 ·rw [decide_eq_false h0,Bool.not_false,br_true,if_pos h0]
theorem P352_eq (o:List Dim):P352 o=some (errOf (allE o).2.2):=by simp only [P352,S352,P320_eq,bno_s]
end Ab
end
section
namespace Ab
open Go
set_option linter.unusedVariables false
set_option linter.unusedSimpArgs false
end Ab
end
