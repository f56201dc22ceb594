import Derived.Test.YtkaifdgeigdbhaaGreatDoorJ1
import Derived.Test.YtkaifdgeigdbhaaGreatDoorC5
import Derived.Test.YtkaifdgeigdbhaaGreatDoorJ3
set_option linter.unusedVariables false
set_option linter.unusedSimpArgs false
namespace Ab
open Go
section
theorem qq:¬ yQ ⟨0,0⟩:=by decide
theorem zbV:¬ yQ ⟨2,0⟩:=by decide
theorem zh1 {n:Int} (h:within n=true):¬ yQ ⟨1,n⟩:=by simp[yQ,h]
theorem zeD (n:Int):¬ yQ (w7 n):=by
 unfold w7;split
 ·rename_i h;exact zh1 h
 ·exact zbV
theorem zcw (a b:Cell) (s:Int):¬ yQ (yP a b s):=by
 unfold yP
 repeat' split
 all_goals first | exact zbV | exact qq | exact zeD _
theorem good_node {cells:List Cell} (hc:∀ c∈cells,¬ yQ c) (names:List ByteArray) (out:List Cell) (x:Node):¬ yQ (zbM names cells out x):=by
 unfold zbM;split
 ·exact zeD _
 ·split
  ·rw[List.getD_eq_getElem?_getD];cases h:cells[(nmI names x.name).toNat]? with
   | none=>exact qq
   | some c=>exact hc c (List.mem_of_getElem? h)
  ·split
   ·exact zcw _ _ _
   ·split
    ·exact zcw _ _ _
    ·split
     ·unfold zcJ
      repeat' split
      all_goals first | exact zbV | exact qq | exact zeD _
     ·unfold cover
      repeat' split
      all_goals first | exact zbV | exact qq | exact zeD _
section
variable {l:List Node} {names:List ByteArray} {cells:List Cell}
theorem zh2 (hc:∀ c∈cells,¬ yQ c):∀ (k:Nat),k<=l.length->∀ j,¬ yQ ((evL l names cells k).getD j ⟨0,0⟩)
 | 0,_,j=>qq
 | k+1,h,j=>by
  have hx:l[k]? = some (l[k]'(by omega)):=List.getElem?_eq_getElem (by omega);rw[zbW hx];simp only[List.getD_eq_getElem?_getD];by_cases hj:j < k
  ·rw[List.getElem?_append_left (by rw[yO (l:=l) (names:=names) (cells:=cells) k (by omega)];omega)];have:=zh2 hc k (by omega) j;rw[List.getD_eq_getElem?_getD] at this;exact this
  ·rw[List.getElem?_append_right (by rw[yO (l:=l) (names:=names) (cells:=cells) k (by omega)];omega),yO (l:=l) (names:=names) (cells:=cells) k (by omega)];by_cases e:j=k
   ·subst e;simpa using good_node hc _ _ _
   ·rw[List.getElem?_eq_none (by simp;omega)];exact qq
end
theorem good_tell {o:List Dim} {l:List Entry} (hl:∀ e∈l,within e.n=true) {g:List Int->Cell} (hg:∀ q,¬ yQ (g q)) (p:List Int):¬ yQ (zaa o l g p):=by
 have hget:∀ (l:List Entry),(∀ e∈l,within e.n=true)->¬ yQ (zja (getL l p)):=by
  intro l
  induction l with
  | nil=>intro _;exact qq
  | cons e l ih =>
   intro h;unfold getL;split
   ·exact ih fun e he=>h e (List.mem_cons_of_mem _ he)
   ·split
    ·exact zh1 (h e List.mem_cons_self)
    ·exact qq
 have hfold:∀ (L:List Int) (d:Dim) (c:Cell),¬ yQ c->¬ yQ (L.foldl (fun c k=>if sgn d.members k=0 then c else yP c (g (p.set (byL o p).toNat k)) (sgn d.members k)) c):=by
  intro L d
  induction L with
  | nil=>intro c h;exact h
  | cons k L ih =>
   intro c h;rw[List.foldl_cons];refine ih _ ?_;split
   ·exact h
   ·exact zcw _ _ _
 unfold zaa;split
 ·exact hget l hl
 ·split
  ·split
   ·split
    ·exact hfold _ _ _ qq
    ·refine zh2 (fun c hc => ?_) _ (Nat.le_refl _) _;obtain ⟨s,_,rfl⟩:=List.mem_map.1 hc;exact hg _
   ·exact qq
  ·exact qq
theorem zfZ {o:List Dim} {l:List Entry} (hl:∀ e∈l,within e.n=true):∀ n p,¬ yQ (solN o l n p)
 | 0,_=>qq
 | n+1,p=>good_tell hl (zfZ hl n) p
theorem good_sol {o:List Dim} {l:List Entry} (hl:∀ e∈l,within e.n=true) (p:List Int):¬ yQ (sol o l p):=zfZ hl _ p
end
section
theorem yv (n:Nat) (f:Nat->Cell):(qi n f).length=n:=by simp[qi]
theorem zcr {n k:Nat} (f:Nat->Cell) (h:k < n):(qi n f)[k]? = some (f k):=by unfold qi;rw[List.getElem?_map,List.getElem?_range h];rfl
theorem ziY (k:Nat) (f:Nat->Cell):qi k f++[f k]=qi (k+1) f:=by simp[qi,List.range_succ]
section
variable {nr nc:Nat} (hr:nr<=1000000) (hc:nc<=1000000) {f:Nat->Nat->Cell}
theorem jO (f:Nat->Nat->Cell):(qp nr nc f).cells.length=nr:=by simp[qp]
theorem wt {i:Nat} (f:Nat->Nat->Cell) (h:i < nr):(qp nr nc f).cells[i]? = some (qi nc (f i)):=by show ((List.range nr).map fun i=>qi nc (f i))[i]? = _;rw[List.getElem?_map,List.getElem?_range h];rfl
include hr hc
omit hc in
theorem P389_grid:zb5 (qp nr nc f).cells (qp nr nc f)=some false:=by
 have hl:=jO (nr:=nr) (nc:=nc) f;have:zb4 (qp nr nc f).cells (qp nr nc f)=some (-1):=by
  simp only[zb4,zim];have hs:=zJ (B:=yR P390 (qp nr nc f).cells (qp nr nc f)) (fun i=>(i:Int)) nr (fun i hi=>by
   have e4:wi ((i:Int)+1)=((i+1:Nat):Int):=by rw[ju (by omega) (by omega)];omega
   have h390:P390 (qi nc (f i)) (qp nr nc f)=some false:=(by simp only[P390,S390,yv];rw[show ((qp nr nc f).cols.length)=nc from qK nc];simp);simp only[yR];rw[zu,if_pos (by omega)];simp only[zh,wt f hi,zl,h390,zg,wn,e4])
  rw[qY,show (0:Int)=((0:Nat):Int) from rfl,hs,qm (y:=(nr:Int)) (by simp only[yR];rw[zu,if_neg (by omega)];rfl)];rfl
 simp only[zb5,zin,this,zl];rfl
theorem zgt (hg:∀ i k,¬ yQ (f i k)):P378 (qp nr nc f)=some .nil:=by
 have hl:=jO (nr:=nr) (nc:=nc) f;have hrows:(qp nr nc f).rows.length=nr:=qK nr;have inner:∀ i,lpO (zc5 P52 (qi nc (f i))) (0:Int)=some (.inl (nc:Int)):=by
  intro i;have hs:=zJ (B:=zc5 P52 (qi nc (f i))) (fun k=>(k:Int)) nc (fun k hk=>by
   have e4:wi ((k:Int)+1)=((k+1:Nat):Int):=by rw[ju (by omega) (by omega)];omega
   simp only[zc5,yv];rw[zu,if_pos (by omega)];simp only[zh,zcr (f i) hk,zl,P52_eq,if_neg (hg i k),jd,Bool.not_true,zg,wn,e4])
  rw[show (0:Int)=((0:Nat):Int) from rfl,hs,qm (y:=(nc:Int)) (by simp only[zc5,yv];rw[zu,if_neg (by omega)];rfl)]
 have hs:=zJ (B:=ze0 P52 (qp nr nc f)) (fun i=>(i:Int)) nr (fun i hi=>by
  have e4:wi ((i:Int)+1)=((i+1:Nat):Int):=by rw[ju (by omega) (by omega)];omega
  simp only[ze0];rw[zu,if_pos (by omega)];simp only[zh,wt f hi,zl];rw[qY,inner i];simp only[ji,wn,e4])
 simp only[P378,S378,hl,hrows,not_true,decide_false,zg,P389_grid hr,zl,zM,ji];rw[qY,show (0:Int)=((0:Nat):Int) from rfl,hs,qm (y:=(nr:Int)) (by simp only[ze0];rw[zu,if_neg (by omega)];rfl)];rfl
theorem zde (hg:∀ i k,¬ yQ (f i k)):P376 (qp nr nc f)=some (qp nc nr fun k i=>f i k,.nil):=by
 have hcols:(qp nr nc f).cols.length=nc:=qK nc;have hrows:(qp nr nc f).rows.length=nr:=qK nr;have h1:P363 (qp nr nc f).cols=some (qz nc):=(by show wB (qz nc)=_;unfold wB;rw[zC (by rw[qK];unfold zF;omega)]);have h2:P363 (qp nr nc f).rows=some (qz nr):=(by show wB (qz nr)=_;unfold wB;rw[zC (by rw[qK];unfold zF;omega)]);have inner:∀ (k:Nat),k < nc->∀ (g:List Int×List Int×List (List Cell)),lpO (zc6 (qp nr nc f) ((k:Int),g)) (([]:List Cell),(0:Int))=some (.inl (qi nr (fun i=>f i k),(nr:Int))):=by
  intro k hk g;have hs:=zJ (B:=zc6 (qp nr nc f) ((k:Int),g)) (fun i=>(qi i (fun i=>f i k),(i:Int))) nr (fun i hi=>by
   have e4:wi ((i:Int)+1)=((i+1:Nat):Int):=by rw[ju (by omega) (by omega)];omega
   have hck:(qi i (fun i=>f i k)).length+[f i k].length<=zF:=by rw[yv,List.length_singleton];unfold zF;omega
   simp only[zc6,hrows];rw[zu,if_pos (by omega)];simp only[zh,wt f hi,zcr (f i) hk,zl,zC hck,wn,e4];rw[show qi i (fun i=>f i k)++[f i k]=qi (i+1) (fun i=>f i k) from ziY i _])
  rw[show (([]:List Cell),(0:Int))=(qi 0 (fun i=>f i k),((0:Nat):Int)) from rfl,hs,qm (y:=(qi nr (fun i=>f i k),(nr:Int))) (by simp only[zc6,hrows];rw[zu,if_neg (by omega)];rfl)]
 have hs:=zJ (B:=ze1 (qp nr nc f)) (fun k=>((k:Int),(qz nc,qz nr,(List.range k).map fun k=>qi nr fun i=>f i k))) nc (fun k hk=>by
  have e4:wi ((k:Int)+1)=((k+1:Nat):Int):=by rw[ju (by omega) (by omega)];omega
  have hck:((List.range k).map fun k=>qi nr fun i=>f i k).length+[qi nr fun i=>f i k].length<=zF:=by simp only[List.length_map,List.length_range,List.length_singleton];unfold zF;omega
  simp only[ze1,hcols];rw[zu,if_pos (by omega),qY,inner k hk];simp only[ji,zC hck,wn,e4,List.range_succ,List.map_append,List.map_cons,List.map_nil])
 simp only[P376,S376,zgt hr hc hg,zl,jd,Bool.not_true,zg,h1,h2];rw[qY,show ((0:Int),(qz nc,qz nr,([]:List (List Cell))))=(((0:Nat):Int),(qz nc,qz nr,(List.range 0).map fun k=>qi nr fun i=>f i k)) from rfl,hs,qm (y:=((nc:Int),(qz nc,qz nr,(List.range nc).map fun k=>qi nr fun i=>f i k))) (by simp only[ze1,hcols];rw[zu,if_neg (by omega)];rfl)];rfl
theorem zgs:P379 (qp nr nc f) (qp nr nc f)=some true:=by
 have hl:=jO (nr:=nr) (nc:=nc) f;have t:∀ n,n<=1000000->P104 (qz n) (qz n)=some true:=fun n h=>by rw[P104_eq _ _ (by rw[qK];omega)];simp
 have hs:=zJ (B:=zeZ P24 (qp nr nc f) (qp nr nc f)) (fun i=>(i:Int)) nr (fun i hi=>by
  have e4:wi ((i:Int)+1)=((i+1:Nat):Int):=by rw[ju (by omega) (by omega)];omega
  have h24:P24 (qi nc (f i)) (qi nc (f i))=some true:=by rw[P24_eq _ _ (by rw[yv];omega)];simp
  simp only[zeZ];rw[zu,if_pos (by omega)];simp only[zh,wt f hi,zl,h24,Bool.not_true,zg,wn,e4])
 simp only[P379,S379,show (qp nr nc f).rows=qz nr from rfl,show (qp nr nc f).cols=qz nc from rfl,t nr hr,t nc hc,zl,Bool.not_true,zg,not_true,decide_false,zM,ji];rw[qY,show (0:Int)=((0:Nat):Int) from rfl,hs,qm (y:=(nr:Int)) (by simp only[zeZ];rw[zu,if_neg (by omega)];rfl)];rfl
end
end
end Ab
