/-
  How long a slice is that comes in, by its reading.
-/
import Derived.Test.YtchidgkpkhloeaaGreatDoorHA
import Derived.ChangeArms
open List (getElem?_eq_getElem mem_append)
set_option linter.unusedVariables false
namespace Ab
open Go
theorem w8 {H:Type} {P:Program} {e:TypeId}:∀ {l:List (DataW H)} {d:DataW H},d∈l->∀ n∈d.weights P e,n∈DataW.weightsAll P e l
 | [],_,h,_,_=>by cases h
 | a :: l,d,h,n,hn=>by
  unfold DataW.weightsAll;rcases List.mem_cons.1 h with rfl | h
  ·exact mem_append.2 (.inl hn)
  ·exact mem_append.2 (.inr (w8 h n hn))
theorem outl_bound {S:Seat} {A:Nat->Prop} {W:World} {H:Type} {enc:TypeId×Value->H} {P:Program} {sp:Nat->Bool} {held:Bool} {t td te:TypeId} {f0 g0 g1 g2:Field} {v:Value} {d:DataW H} {p:List MemPlace} {x:List Dim} {R:Nat}
  (k:VR0 S A W (encA (.st .outl) x) v) (h:DataW.Trod enc P W 0 sp held t v d p) (hw:∀ n∈d.weights P t,n<=R) (h0:P.underlying t=some (.struct #[f0])) (hf0:f0.offset=0) (hc0:P.cellsOf f0.type=1) (h1:P.underlying f0.type=some (.slice td)) (hz:P.cellsOf td=3)
  (h2:P.underlying td=some (.struct #[g0,g1,g2])) (hg:g2.offset=2) (hcg:P.cellsOf g2.type=1) (h3:P.underlying g2.type=some (.slice te)):∀ dm∈x,dm.members.length * P.bytesOf te<=R:=by
 obtain ⟨fuel,hf⟩:=h;have k':VR0 S A W (.agg [.sl 3 (x.map Dim.cs)]) v:=k;obtain ⟨us,rfl,hl,hu⟩:=VR.agg_inv (σ:=fun _=>none) (.of0 k');have hu0:VR0 S A W (.sl 3 (x.map Dim.cs)) (us.getD 0 undef):=(hu 0 _ rfl).to0 rfl;obtain ⟨u,rfl⟩:∃ u,us=#[u]:=⟨us[0]'(by simp at hl;omega),by
  apply Array.ext
  ·simpa using hl.symm
  ·intro i h1 h2;obtain rfl:i=0:=by simp at h2;omega
   rfl⟩
 have hu0:VR0 S A W (.sl 3 (x.map Dim.cs)) u:=hu0;obtain ⟨xs,n,rfl,hd,hcl,hxl,hall⟩:=DataW.trod_struct h0 hf;have q0:=hall 0 f0 rfl;rw[hf0,hc0] at q0;obtain ⟨y0,hy0⟩:∃ y0,xs[0]? = some y0:=⟨_,getElem?_eq_getElem (by rw[hxl];simp)⟩;rw[hy0] at q0;have q0:DataW.trod enc P W 0 sp held n f0.type [u]=some y0:=by simpa[Value.cells] using q0
 have hxs:xs=[y0]:=by
  match xs,hxl,hy0 with
  | [a],_,hy0=>simpa using hy0
 have hd1:d=.agg [y0.1]:=by
  have:=congrArg Prod.fst hd;simpa[hxs] using this
 have w0:∀ m∈y0.1.weights P f0.type,m<=R:=fun m hm=>hw m (by rw[hd1];simp[DataW.weights,h0,DataW.weightsEach,hm]);intro dm hdm;obtain ⟨i,hi,rfl⟩:=List.getElem_of_mem hdm;rcases DataW.trod_slice h1 q0 with ⟨e1,e2⟩ | ⟨a,len,cap,elems,rest,m,rfl,e1,e2,_,_,_,e3,e4,_⟩
 ·simp only[List.cons.injEq,and_true] at e1;subst e1;rcases VR.sl_inv (σ:=fun _=>none) (.of0 hu0) with ⟨e,_⟩ | ⟨b,o,cap,w,c1,_⟩ | ⟨e,_⟩
  ·have:x=[]:=by simpa using e
   subst this;simp at hi
  ·cases c1
  ·have:x=[]:=by simpa using e
   subst this;simp at hi
 ·simp only[List.cons.injEq,and_true] at e1;subst e1;have wS:∀ z∈elems,∀ m∈z.1.weights P td,m<=R:=fun z hz m hm=>w0 m (by
   rw[e2];simp only[DataW.weights,h1];exact List.mem_cons_of_mem _ (mem_append.2 (.inl (w8 (List.mem_map_of_mem hz) m hm))))
  rcases VR.sl_inv (σ:=fun _=>none) (.of0 hu0) with ⟨e,_⟩ | ⟨b,o,cap',w,c1,c2,c3,c4,c5,c6,c7⟩ | ⟨e,_⟩
  ·have:x=[]:=by simpa using e
   subst this;simp at hi
  ·simp only[Value.slice.injEq,Option.some.injEq] at c1;obtain ⟨rfl,rfl,rfl⟩:=c1;have hil:i < elems.length:=by rw[e3];simpa using hi
   have q1:=e4 i (by simpa using hi);rw[getElem?_eq_getElem hil,hz,Option.bind_eq_some_iff] at q1;obtain ⟨cs,r1,r2⟩:=q1;obtain ⟨r3,r4⟩:=zaS r1;obtain ⟨xs2,m2,rfl,s1,s2,s3,s4⟩:=DataW.trod_struct h2 r2;have s5:=s4 2 g2 rfl;rw[hg,hcg] at s5;obtain ⟨z2,hz2⟩:∃ z2,xs2[2]? = some z2:=⟨_,getElem?_eq_getElem (by rw[s3];simp)⟩;have hcs:(cs.drop 2).take 1=[cs.getD 2 undef]:=by
    rw[List.drop_eq_getElem_cons (by omega),List.take_succ_cons,List.take_zero,List.getD_eq_getElem?_getD,getElem?_eq_getElem (by omega)];rfl
   rw[hz2,hcs] at s5;have hw2:∀ m∈z2.1.weights P g2.type,m<=R:=fun m hm=>wS _ (List.getElem_mem hil) m (by
    rw[congrArg Prod.fst s1]
    match xs2,s3,hz2 with
    | [a0,a1,a2],_,hz2 =>
     have:a2=z2:=by simpa using hz2
     subst this;simp[DataW.weights,h2,DataW.weightsEach,hm])
   have hcell:cs.getD 2 undef=w (i * 3+2):=by
    have g1:=r4 2 (by omega);have g2:=c5 (i * 3+2) (by simp;omega);rw[addr_add ⟨b,o,none⟩ _ rfl,addr_add _ _ rfl] at g1;simp only at g1;rw[Nat.add_assoc] at g1;rw[g2] at g1;exact (Option.some.inj g1).symm
   have hm:VR0 S A W (.sl 4 ((x[i]).members.map Member.cs)) (w (i * 3+2)):=c7 i (Dim.cs x[i]) 2 _ (by rw[List.getElem?_map,getElem?_eq_getElem hi];rfl) rfl;rw[hcell] at s5;generalize w (i * 3+2)=u2 at s5 hm;rcases DataW.trod_slice h3 s5 with ⟨f1,f2⟩ | ⟨a,len,cap,elems2,rest2,m,_,f1,f2,_,_,_,f3,_⟩
   ·simp only[List.cons.injEq,and_true] at f1;subst f1;rcases VR.sl_inv (σ:=fun _=>none) (.of0 hm) with ⟨e,_⟩ | ⟨b,o,cap,w,c1,_⟩ | ⟨e,_⟩
    ·have:(x[i]).members=[]:=by simpa using e
     rw[this];simp
    ·cases c1
    ·have:(x[i]).members=[]:=by simpa using e
     rw[this];simp
   ·simp only[List.cons.injEq,and_true] at f1;subst f1;have hlen:(x[i]).members.length=elems2.length:=by
     rcases VR.sl_inv (σ:=fun _=>none) (.of0 hm) with ⟨e,e'⟩ | ⟨b,o,cap,w,c1,_⟩ | ⟨e,a',cap',e'⟩
     ·cases e'
     ·simp only[Value.slice.injEq] at c1;rw[f3,c1.2.1];simp
     ·simp only[Value.slice.injEq] at e';have:(x[i]).members=[]:=by simpa using e
      rw[this,f3,e'.2.1];simp
    have:=hw2 ((elems2.length+rest2.length) * P.bytesOf te) (by rw[f2];simp[DataW.weights,h3]);rw[hlen];exact Nat.le_trans (Nat.mul_le_mul_right _ (Nat.le_add_right _ _)) this
  ·have:x=[]:=by simpa using e
   subst this;simp at hi
end Ab
