import Derived.Test.YtchidgkpkhloeaaGreatDoorH7
set_option linter.unusedVariables false
set_option linter.unusedSimpArgs false
namespace Ab
open Go
section
end
section
noncomputable def zh2 (o:List Dim) (l:List Entry):List Cell:=(List.range (sizeN o)).map fun k=>sol o l (qw o k).1
theorem P332_eq {o:List Dim} {l:List Entry} (hl:Lst Entry.gd l):P332 o l=some (if jV o l=0 then (zh2 o l,.nil) else ([],zn (jV o l))):=by
 unfold P332;rw[if_pos hl,wP hl];by_cases h:jV o l=0
 ·rw[if_pos h,h];rfl
 ·rw[if_neg h];have he:zn (jV o l)≠.nil:=fun c=>h (ja.1 c);generalize zn (jV o l)=e at he;cases e<;>simp_all
theorem P330_eq {o:List Dim} {l:List Entry} {p:List Int} (hl:Lst Entry.gd l) (hp:p.length<=9223372036854775807):P330 o l p=some (if jV o l=0 then (if jq o p=0 then (sol o l p,.nil) else (⟨0,0⟩,zn (jq o p))) else (⟨0,0⟩,zn (jV o l))):=by
 unfold P330;rw[if_pos ⟨hl,hp⟩,wP hl,zdy o p hp];by_cases h:jV o l=0
 ·rw[if_pos h,h];by_cases h2:jq o p=0
  ·rw[if_pos h2,h2];rfl
  ·rw[if_neg h2,show zn 0=Err.nil from rfl];have he:zn (jq o p)≠.nil:=fun c=>h2 (ja.1 c);generalize zn (jq o p)=e at he ⊢;cases e<;>simp_all
 ·rw[if_neg h];have he:zn (jV o l)≠.nil:=fun c=>h (ja.1 c);generalize zn (jV o l)=e at he;cases e<;>simp_all
theorem za1 (o:List Dim) (l:List Entry):(zh2 o l).length=sizeN o:=by simp[zh2]
def noForm (o:List Dim):Prop:=∀ d∈o,∀ m∈d.members,m.formula=⟨#[]⟩
theorem zhg {d:Dim} (ok:DimOk d) (h:∀ m∈d.members,m.formula=⟨#[]⟩):(qv d).2=0:=by
 have h0:=zgD.2 ok;have hl:=ok.len;have hraw:∀ i x,x∈zhm d i->∃ k:Nat,x=k∧i < k∧k < d.members.length:=by
  intro i x hx;unfold zhm at hx;split at hx
  ·rename_i m hm;rw[if_pos (h m (List.mem_of_getElem? hm))] at hx;have:=parts_up ok.rooted (List.mem_filter.1 hx).1;exact ⟨x.toNat,by omega,by omega,by omega⟩
  ·cases hx
 have hmem:∀ i,i < d.members.length->zd7 d i=none:=(by intro i hi;have hm:=List.getElem?_eq_getElem hi;unfold zd7;rw[hm];simp only;rw[if_neg (fun c=>c.1 (h _ (List.getElem_mem hi))),if_neg];intro c;have:=ziH.1 c;obtain ⟨k,hk,_⟩:=hraw i _ ((zam _).2 _ |>.1 this);omega);have hrng:=zfk hmem;have hnd:∀ a b,b∈nd (wt d) a->a < b:=by
  intro a b hb;obtain ⟨x,hx,rfl⟩:=List.mem_map.1 hb;by_cases ha:a < d.members.length
  ·rw[List.getD_eq_getElem?_getD,zfl ha] at hx;obtain ⟨k,rfl,hk,_⟩:=hraw a x ((zam _).2 _ |>.1 hx);omega
  ·rw[List.getD_eq_getElem?_getD,List.getElem?_eq_none (by rw[zcc];omega)] at hx;cases hx
 have hreach:∀ a b,Reach (wt d) a b->a < b:=by
  intro a b hr
  induction hr with
  | one h=>exact hnd _ _ h
  | more h _ ih=>exact Nat.lt_trans (hnd _ _ h) ih
 rw[show qv d=zaE d from if_neg (fun c=>c h0)];unfold zaE;rw[List.findSome?_eq_none_iff.2 (fun i hi=>by rw[hmem i (List.mem_range.1 hi)];rfl)];simp only;rw[List.findSome?_eq_none_iff.2 (fun i hi=>by
  unfold zew;rw[if_neg (fun c=>Nat.lt_irrefl _ (hreach i i ((selfN_iff hrng i).1 c)))]
  rfl)]
theorem zjS {o:List Dim} (ok:OutOk o) (h:noForm o):CubeOk o:=⟨ok,fun d hd=>zhg (ok.dims d hd) (h d hd)⟩
end
section
theorem zi0 {o:List Dim} {p:List Int} (h:∀ (i:Nat) (d:Dim) (m:Int),o[i]? = some d->p[i]? = some m->wC d.members m.toNat=true):∀ n,byN o p n = -1
 | 0=>rfl
 | n+1=>by
  rw[byN,if_neg]
  ·exact zi0 h n
  ·intro c;unfold byC at c;split at c
   ·rename_i d m hd hm;rw[h n d m hd hm] at c;simp at c
   ·cases c
theorem leafP_at {o:List Dim} {p:List Int} (h:zcG o p=true) (i:Nat) (d:Dim) (m:Int) (hd:o[i]? = some d) (hm:p[i]? = some m):wC d.members m.toNat=true:=by unfold zcG at h;refine List.all_eq_true.1 h (m,d) ?_;refine List.mem_iff_getElem?.2 ⟨i, ?_⟩;rw[List.getElem?_zip_eq_some];exact ⟨hm,hd⟩
theorem getL_in:∀ {l:List Entry},(∀ (i:Nat) (a b:Entry),l[i]? = some a->l[i+1]? = some b->cmpL a.at_ b.at_ < 0)->∀ {i:Nat} {e:Entry},l[i]? = some e->getL l e.at_=some e.n
 | [],_,i,e,h=>by simp at h
 | a :: l,hr,0,e,h=>by
  simp only[List.getElem?_cons_zero,Option.some.injEq] at h;subst h;have h0:cmpL a.at_ a.at_=0:=zgI _;unfold getL;rw[if_neg (by omega),if_pos h0]
 | a :: l,hr,i+1,e,h=>by
  have hr2:∀ (i:Nat) (a b:Entry),l[i]? = some a->l[i+1]? = some b->cmpL a.at_ b.at_ < 0:=fun j x y h1 h2=>hr (j+1) x y (by simpa using h1) (by simpa using h2);have hlt:∀ (j:Nat) (y:Entry),l[j]? = some y->cmpL a.at_ y.at_ < 0:=by
   intro j
   induction j with
   | zero=>intro y hy;exact hr 0 a y rfl (by simpa using hy)
   | succ j ih =>
    intro y hy;have hj:j < l.length:=by have:=(List.getElem?_eq_some_iff.1 hy).1;omega
    have hx:=List.getElem?_eq_getElem hj;exact w8 (ih _ hx) (hr2 j _ y hx hy)
  have:=hlt i e (by simpa using h);unfold getL;rw[if_pos this];exact getL_in hr2 (by simpa using h)
theorem sol_ent {o:List Dim} {l:List Entry} (ok:RightC o l) {i:Nat} {e:Entry} (h:l[i]? = some e):sol o l e.at_=yM e.n:=by have he:=List.mem_of_getElem? h;rw[zij ok.cube (ok.ents.fit e he)];unfold zae;rw[show byL o e.at_ = -1 from zi0 (leafP_at (ok.ents.leaf e he)) _,if_pos (by omega),getL_in ok.ents.rise h];unfold yM;rw[if_pos (ok.val e he)];rfl
end
end Ab
