/-
  A queue of numbers: a slice somewhere in a block of the call's own, cut at its front and appended to. Over any program.
-/
import Derived.Deep.AppendSrc
import Derived.Deep.Onto
import Derived.Deep.Upon
open List (getD_eq_getElem?_getD getElem?_map length_append length_map)
open Nat (add_assoc mul_one zero_add)
set_option linter.all false
namespace Ab
open Go Go.RowKit
def zhG (W:World) (base:Nat) (v:Value) (l:List Int):Prop :=
 (∃ a,v=.slice a 0 0∧l=[]∧∀ b,v.ownBlock=some b->base<=b) ∨
 ∃ g o cap,v=.slice (some ⟨g,o,none⟩) l.length cap∧base<=g∧g < W.heap.size∧l.length<=cap∧0 < cap∧cap<=maxLen ∧
  (∀ j,j < l.length->W.cell? ⟨g,o+j,none⟩=some (.int .i64 (l.getD j 0)))∧∀ j,j < cap->(W.cell? ⟨g,o+j,none⟩).isSome=true∧W.frozen? ⟨g,o+j,none⟩=false
def jF (b:Nat):∀ (vs:List Value) (o:Nat) (w:World),(w.setCells b o vs).tape=w.tape∧(w.setCells b o vs).heap.size=w.heap.size
 | [],_,_=>⟨rfl,rfl⟩
 | v :: r,o,w=>by
  obtain ⟨h1,h2⟩:=jF b r (o+1) (w.setCell ⟨b,o,none⟩ v);exact ⟨h1.trans rfl,h2.trans (by simp[World.setCell])⟩
def jm (w:World) (b o:Nat) (vs:List Value):w.grownBy (w.setCells b o vs) (some b) :=
 ⟨World.os_setCells w b o vs,(jF b vs o w).1,World.output_setCells w b o vs,Nat.le_of_eq (jF b vs o w).2.symm,fun k hk ah=>World.heap_setCells_other w b o vs hk (fun e=>ah (by rw[e]))⟩
section
variable {P:Program} {W:World} {base:Nat} {v:Value} {l:List Int}
def zhG.kept {w':World} (h:zhG W base v l) {row:Option Nat} (hg:W.grownBy w' row) (ah:∀ b,v.ownBlock=some b->row≠some b):zhG w' base v l:=by
 rcases h with h | ⟨g,o,cap,rfl,h2,h3,h4,h5,h6,h7,h8⟩
 ·exact .inl h
 ·have hb:=hg.block g h3 (fun e=>ah g rfl e.symm);refine .inr ⟨g,o,cap,rfl,h2,Nat.lt_of_lt_of_le h3 hg.size,h4,h5,h6,fun j hj => ?_,fun j hj => ?_⟩
  ·exact (World.cell?_of_block (a:=⟨g,o+j,none⟩) hb).trans (h7 j hj)
  ·rw[World.cell?_of_block (a:=⟨g,o+j,none⟩) hb,World.frozen?_of_block (a:=⟨g,o+j,none⟩) hb];exact h8 j hj
def zhG.append (h:zhG W base v l) (eX:base<=W.heap.size) {t ty e:TypeId} {i:TypeInfo} {z:Value} (ht:P.underlying t=some (.slice e)) (hi:P.info? e=some i) (hz:i.zero=some z) (bp:i.size=1) (nf:i.bytes=8) (bK:z.cells.size=1)
  {x:Value} {ys:List Int} (hs:Go.Src P 1 t x ys.length (ys.map (Value.int .i64)) W) (nK:l.length+ys.length<=1000000000) :
  ∃ v' w',(Builtin.append_ #[t,t] ty #[v,x]).run P W=.ok v' w'∧zhG w' base v' (l++ys)∧W.grownBy w' v.ownBlock∧(v'.ownBlock=v.ownBlock∨v'.ownBlock=some W.heap.size):=by
 have aY:∀ u∈ys.map (Value.int .i64),u.oneCell'=true:=hs.one
 -- no room
 have grow:∀ (a:Option Addr) (cap:Nat),v=.slice a l.length cap->cap < l.length+ys.length->cap<=maxLen->(Builtin.firstCells 1 l.length (.slice a l.length cap)).run P W.drew=.ok (l.map (Value.int .i64)).toArray W.drew ->
   ∃ v' w',(Builtin.append_ #[t,t] ty #[v,x]).run P W=.ok v' w'∧zhG w' base v' (l++ys)∧W.grownBy w' v.ownBlock∧(v'.ownBlock=v.ownBlock∨v'.ownBlock=some W.heap.size):=by
  rintro a cap rfl ba dP hold;have aD:=run_append_grow_src (P:=P) W t t ty e i z ht hi hz a l.length cap (l.map (Value.int .i64)) (by rw[bp];exact hold) x ys.length (ys.map (Value.int .i64)) (by rw[bp];exact hs) ba (by omega) (growslice_fits ba (by rw[nf];omega));have o8:=grownCap_ge W (l.length+ys.length) cap e;refine ⟨_,_,aD,.inr ⟨W.heap.size,0,grownCap W (l.length+ys.length) cap e,by rw[length_append],eX,by simp, ?_,by omega, ?_,fun j hj => ?_,fun j hj => ?_⟩, ?_,.inr rfl⟩
  ·rw[length_append];exact o8
  ·exact grownCap_le_maxLen W _ _ e (by unfold maxLen;omega)
  ·have mR:(((l.map (Value.int .i64))++ys.map (Value.int .i64)).toArray++Builtin.zeroCells z.cells (grownCap W (l.length+ys.length) cap e - (l.length+ys.length)))[j]? = some (.int .i64 ((l++ys).getD j 0)):=(by rw[← List.map_append,Array.getElem?_append_left (by simpa using hj)];simp only[List.getElem?_toArray,getElem?_map,List.getElem?_eq_getElem hj,Option.map_some,getD_eq_getElem?_getD,Option.getD_some]);rw[zero_add];have hn:=heap_alloc_new W.drew (.cells (((l.map (Value.int .i64))++ys.map (Value.int .i64)).toArray++Builtin.zeroCells z.cells (grownCap W (l.length+ys.length) cap e - (l.length+ys.length))) e);rw[show W.drew.heap.size=W.heap.size from rfl] at hn;simp only[World.cell?,hn];exact mR
  ·have hn:=heap_alloc_new W.drew (.cells (((l.map (Value.int .i64))++ys.map (Value.int .i64)).toArray++Builtin.zeroCells z.cells (grownCap W (l.length+ys.length) cap e - (l.length+ys.length))) e);rw[show W.drew.heap.size=W.heap.size from rfl] at hn;have aG:(((l.map (Value.int .i64))++ys.map (Value.int .i64)).toArray++Builtin.zeroCells z.cells (grownCap W (l.length+ys.length) cap e - (l.length+ys.length))).size=grownCap W (l.length+ys.length) cap e:=(by simp[size_zeroCells,bK];omega);rw[zero_add];refine ⟨?_,by unfold World.frozen?;rw[hn];simp⟩;simp only[World.cell?,hn];rw[Array.getElem?_eq_getElem (by omega)];rfl
  ·exact ⟨rfl,rfl,rfl,by simp,fun k hk _=>heap_alloc_old W.drew _ k hk⟩
 rcases h with ⟨a,rfl,rfl,ha⟩ | ⟨g,o,cap,rfl,h2,h3,h4,h5,h6,h7,h8⟩
 ·cases ys with
  | nil =>have:=run_append_nothing (P:=P) W t t ty e i ht hi a 0 0 (Nat.le_refl _) x (by rw[bp];exact hs);exact ⟨_,_,this,.inl ⟨a,rfl,rfl,ha⟩,⟨rfl,rfl,rfl,Nat.le_refl _,fun _ _ _=>rfl⟩,.inl rfl⟩
  | cons y ys =>exact grow a 0 rfl (by simp) (by unfold maxLen;omega) (by cases a<;>rfl)
 ·by_cases al:l.length+ys.length<=cap
  ·have aD:=run_append_room_src (P:=P) W t t ty e i ht hi g o l.length cap x ys.length (ys.map (Value.int .i64)) (by rw[bp];exact hs) al
    (fun j hj=>by
     rw[bp,mul_one,add_assoc];rw[length_map] at hj;exact (h8 _ (by omega)).1)
    (fun j hj=>by
     rw[bp,mul_one,add_assoc];rw[length_map] at hj;exact (h8 _ (by omega)).2)
   rw[bp,mul_one] at aD;refine ⟨_,_,aD,.inr ⟨g,o,cap,by rw[length_append],h2,by rw[(jF g _ _ W).2];exact h3,by rw[length_append];exact al,h5,h6,fun j hj => ?_,fun j hj => ?_⟩,jm W g _ _,.inl rfl⟩
   ·by_cases fb:j < l.length
    ·rw[World.cell?_setCells_out g _ _ W ⟨g,o+j,none⟩ (fun _ _=>.inl (by simp;omega)),h7 j fb];simp only[getD_eq_getElem?_getD];rw[List.getElem?_append_left fb]
    ·rw[length_append] at hj;have kR:j - l.length < ys.length:=by omega
     have cq:=World.cell?_setCells_in g (ys.map (Value.int .i64)) (o+l.length) W (fun j' bF=>by
      rw[length_map] at bF;rw[add_assoc];exact (h8 _ (by omega)).1) (j - l.length) (by rw[length_map];exact kR)
     rw[show o+l.length+(j - l.length)=o+j by omega] at cq;rw[cq];simp only[List.getElem_map,getD_eq_getElem?_getD];rw[List.getElem?_append_right (by omega),List.getElem?_eq_getElem kR];rfl
   ·refine ⟨?_,by rw[World.frozen?_setCells];exact (h8 j hj).2⟩;by_cases fb:l.length<=j∧j < l.length+ys.length
    ·have kR:j - l.length < ys.length:=by omega
     have cq:=World.cell?_setCells_in g (ys.map (Value.int .i64)) (o+l.length) W (fun j' bF=>by
      rw[length_map] at bF;rw[add_assoc];exact (h8 _ (by omega)).1) (j - l.length) (by rw[length_map];exact kR)
     rw[show o+l.length+(j - l.length)=o+j by omega] at cq;rw[cq];rfl
    ·rw[World.cell?_setCells_out g _ _ W ⟨g,o+j,none⟩ (fun _ _=>by simp;omega)];exact (h8 j hj).1
  ·refine grow (some ⟨g,o,none⟩) cap rfl (by omega) h6 ?_;refine run_firstCells_some W.drew 1 l.length ⟨g,o,none⟩ l.length cap _ (by simp) fun j u hu => ?_;rw[Addr.add_lit];rw[getElem?_map,Option.map_eq_some_iff] at hu;obtain ⟨n,hn,rfl⟩:=hu;have hj:=(List.getElem?_eq_some_iff.1 hn).1;have:=h7 j hj;rw[getD_eq_getElem?_getD,hn] at this;exact this
def zdA {ops:Array Oper} {rest:List Oper} {o:Oper} {a:Act} {Q:Exit->Act->World->Prop} (kU:o.guard=none) (s x:Operand) (t:TypeId)
  (ho:o.op=.call { callee:=.builtin .append,args:=#[s,x],argTypes:=#[t,t] }) (h:zhG W base v l) (eX:base<=W.heap.size) {e:TypeId} {i:TypeInfo} {z:Value} (ht:P.underlying t=some (.slice e)) (hi:P.info? e=some i) (hz:i.zero=some z) (bp:i.size=1) (nf:i.bytes=8) (bK:z.cells.size=1)
  (hv:a.eval s=v) {xv:Value} (hx:a.eval x=xv) {ys:List Int} (hs:Go.Src P 1 t xv ys.length (ys.map (Value.int .i64)) W) (nK:l.length+ys.length<=1000000000)
  (hK:∀ v' w',zhG w' base v' (l++ys)->W.grownBy w' v.ownBlock->(v'.ownBlock=v.ownBlock∨v'.ownBlock=some W.heap.size)->wpList P ops Q rest (a.put o.dst v') w'):wpList P ops Q (o :: rest) a W:=by
 refine wpList_plain kU fun K hK' => ?_;obtain ⟨v',w',aD,r1,r2,r3⟩:=zhG.append (P:=P) h eX (ty:=o.type) ht hi hz bp nf bK hs nK;unfold Oper.wp;simp[execOp,ho,resolve,invoke,builtin,hv,hx,aD,Result.andThen];exact hK' _ _ (hK v' w' r1 r2 r3)
def own_q {W:World} {base:Nat} {e:TypeId} {v:Value} {l:List Int} {m:Nat} (hm:m=l.length) (h:W.ownsRow base e 1 v m (l.map (Value.int .i64))):zhG W base v l:=by
 subst hm;rcases h.2 with ⟨rfl,hn⟩ | ⟨g,cap,cur,rfl,hb,hg,h1,h2,h3,h4⟩
 ·exact .inl ⟨none,rfl,List.length_eq_zero_iff.1 hn,by simp[Value.ownBlock]⟩
 ·rw[mul_one] at h3 h4;by_cases hc:cap=0
  ·have hl:l.length=0:=by omega
   exact .inl ⟨some ⟨g,0,none⟩,by rw[hl,hc],List.length_eq_zero_iff.1 hl,fun b ay=>by simp[Value.ownBlock] at ay;omega⟩
  ·refine .inr ⟨g,0,cap,rfl,hb,(Array.getElem?_eq_some_iff.1 hg).1,h1,by omega,h2,fun j hj => ?_,fun j hj => ?_⟩
   ·rw[zero_add];have h5:(cur.toList.take l.length)[j]? = (l.map (Value.int .i64))[j]?:=by rw[h4]
    rw[List.getElem?_take_of_lt hj,Array.getElem?_toList,getElem?_map,List.getElem?_eq_getElem hj] at h5;simp only[World.cell?,hg];rw[getD_eq_getElem?_getD,List.getElem?_eq_getElem hj];exact h5
   ·rw[zero_add];refine ⟨?_,by unfold World.frozen?;rw[hg];simp⟩;simp only[World.cell?,hg];rw[Array.getElem?_eq_getElem (by omega)];rfl
end
end Ab
