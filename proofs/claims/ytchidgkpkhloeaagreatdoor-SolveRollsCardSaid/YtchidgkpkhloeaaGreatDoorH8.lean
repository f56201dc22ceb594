import Derived.Test.YtchidgkpkhloeaaGreatDoorH7
set_option linter.unusedVariables false
set_option linter.unusedSimpArgs false
namespace Ab
open Go
section
end
section
noncomputable def allC (o:List Dim) (l:List Entry):List Cell:=(List.range (sizeN o)).map fun k=>sol o l (zbZ o k).1
theorem P330_eq {o:List Dim} {l:List Entry} {p:List Int} (hl:Lst Entry.gd l) (hp:p.length<=9223372036854775807):P330 o l p=some (if zaP o l=0 then (if jb o p=0 then (sol o l p,.nil) else (⟨0,0⟩,zn (jb o p))) else (⟨0,0⟩,zn (zaP o l))):=by
 unfold P330;rw[if_pos ⟨hl,hp⟩,zfk hl,zec o p hp];by_cases h:zaP o l=0
 ·rw[if_pos h,h];by_cases h2:jb o p=0
  ·rw[if_pos h2,h2];rfl
  ·rw[if_neg h2,show zn 0=Err.nil from rfl];have he:zn (jb o p)≠.nil:=fun c=>h2 (yD.1 c);generalize zn (jb o p)=e at he ⊢;cases e<;>simp_all
 ·rw[if_neg h];have he:zn (zaP o l)≠.nil:=fun c=>h (yD.1 c);generalize zn (zaP o l)=e at he;cases e<;>simp_all
def noForm (o:List Dim):Prop:=∀ d∈o,∀ m∈d.members,m.formula=⟨#[]⟩
end
section
theorem allC_at {o:List Dim} {l:List Entry} (ok:RightC o l) {p:List Int} (hf:Fit o p):zx (allC o l) ((zbL o p:Nat):Int)=some (sol o l p):=by
 rw[zf];unfold allC;rw[List.getElem?_map,List.getElem?_range (zcr hf)];simp only[Option.map_some,jV ok.pos hf]
theorem ziv {o:List Dim} {p:List Int} (h:∀ (i:Nat) (d:Dim) (m:Int),o[i]? = some d->p[i]? = some m->yZ d.members m.toNat=true):∀ n,byN o p n = -1
 | 0=>rfl
 | n+1=>by
  rw[byN,if_neg]
  ·exact ziv h n
  ·intro c;unfold byC at c;split at c
   ·rename_i d m hd hm;rw[h n d m hd hm] at c;simp at c
   ·cases c
theorem leafP_at {o:List Dim} {p:List Int} (h:zbO o p=true) (i:Nat) (d:Dim) (m:Int) (hd:o[i]? = some d) (hm:p[i]? = some m):yZ d.members m.toNat=true:=by
 unfold zbO at h;refine List.all_eq_true.1 h (m,d) ?_;refine List.mem_iff_getElem?.2 ⟨i, ?_⟩;rw[List.getElem?_zip_eq_some];exact ⟨hm,hd⟩
theorem getL_in:∀ {l:List Entry},(∀ (i:Nat) (a b:Entry),l[i]? = some a->l[i+1]? = some b->cmpL a.at_ b.at_ < 0)->∀ {i:Nat} {e:Entry},l[i]? = some e->zjq l e.at_=some e.n
 | [],_,i,e,h=>by simp at h
 | a :: l,hr,0,e,h=>by
  simp only[List.getElem?_cons_zero,Option.some.injEq] at h;subst h;have h0:cmpL a.at_ a.at_=0:=zaR _;unfold zjq;rw[if_neg (by omega),if_pos h0]
 | a :: l,hr,i+1,e,h=>by
  have hr2:∀ (i:Nat) (a b:Entry),l[i]? = some a->l[i+1]? = some b->cmpL a.at_ b.at_ < 0:=fun j x y h1 h2=>hr (j+1) x y (by simpa using h1) (by simpa using h2);have hlt:∀ (j:Nat) (y:Entry),l[j]? = some y->cmpL a.at_ y.at_ < 0:=by
   intro j
   induction j with
   | zero=>intro y hy;exact hr 0 a y rfl (by simpa using hy)
   | succ j ih =>
    intro y hy;have hj:j < l.length:=by have:=(List.getElem?_eq_some_iff.1 hy).1;omega
    have hx:=List.getElem?_eq_getElem hj;exact wQ (ih _ hx) (hr2 j _ y hx hy)
  have:=hlt i e (by simpa using h);unfold zjq;rw[if_pos this];exact getL_in hr2 (by simpa using h)
theorem sol_ent {o:List Dim} {l:List Entry} (ok:RightC o l) {i:Nat} {e:Entry} (h:l[i]? = some e):sol o l e.at_=qS e.n:=by
 have he:=List.mem_of_getElem? h;rw[zdG ok.cube (ok.ents.fit e he)];unfold wZ;rw[show byL o e.at_ = -1 from ziv (leafP_at (ok.ents.leaf e he)) _,if_pos (by omega),getL_in ok.ents.rise h];unfold qS;rw[if_pos (ok.val e he)];rfl
end
end Ab
