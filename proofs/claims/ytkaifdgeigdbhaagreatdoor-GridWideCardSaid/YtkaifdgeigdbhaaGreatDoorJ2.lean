import Derived.Test.YtkaifdgeigdbhaaGreatDoorJ1
import Derived.Test.YtkaifdgeigdbhaaGreatDoorC5
import Derived.Test.YtkaifdgeigdbhaaGreatDoorJ3
set_option linter.unusedVariables false
set_option linter.unusedSimpArgs false
namespace Ab
open Go
section
theorem zfG:¬ zda ⟨0,0⟩:=by decide
section
variable {l:List Node} {names:List ByteArray} {cells:List Cell}
end
end
section
theorem wl (n:Nat) (f:Nat->Cell):(jv n f).length=n:=by simp[jv]
theorem zfw {n k:Nat} (f:Nat->Cell) (h:k < n):(jv n f)[k]? = some (f k):=by unfold jv;rw[List.getElem?_map,List.getElem?_range h];rfl
section
variable {nr nc:Nat} (hr:nr<=1000000) (hc:nc<=1000000) {f:Nat->Nat->Cell}
theorem yK (f:Nat->Nat->Cell):(jh nr nc f).cells.length=nr:=by simp[jh]
theorem zcg {i:Nat} (f:Nat->Nat->Cell) (h:i < nr):(jh nr nc f).cells[i]? = some (jv nc (f i)):=by show ((List.range nr).map fun i=>jv nc (f i))[i]? = _;rw[List.getElem?_map,List.getElem?_range h];rfl
include hr hc
omit hc in
theorem P389_grid:zbQ (jh nr nc f).cells (jh nr nc f)=some false:=by
 have hl:=yK (nr:=nr) (nc:=nc) f;have:zbP (jh nr nc f).cells (jh nr nc f)=some (-1):=by
  simp only[zbP,zhZ];have hs:=zK (B:=yL P390 (jh nr nc f).cells (jh nr nc f)) (fun i=>(i:Int)) nr (fun i hi=>by
   have e4:wi ((i:Int)+1)=((i+1:Nat):Int):=by rw[jo (by omega) (by omega)];omega
   have h390:P390 (jv nc (f i)) (jh nr nc f)=some false:=(by simp only[P390,S390,wl];rw[show ((jh nr nc f).cols.length)=nc from jb nc];simp);simp only[yL];rw[zn,if_pos (by omega)];simp only[zh,zcg f hi,zl,h390,zg,we,e4])
  rw[qS,show (0:Int)=((0:Nat):Int) from rfl,hs,ql (y:=(nr:Int)) (by simp only[yL];rw[zn,if_neg (by omega)];rfl)];rfl
 simp only[zbQ,zh0,this,zl];rfl
theorem P378_grid (hg:∀ i k,¬ zda (f i k)):P378 (jh nr nc f)=some .nil:=by
 have hl:=yK (nr:=nr) (nc:=nc) f;have hrows:(jh nr nc f).rows.length=nr:=jb nr;have inner:∀ i,lpO (zcO P52 (jv nc (f i))) (0:Int)=some (.inl (nc:Int)):=by
  intro i;have hs:=zK (B:=zcO P52 (jv nc (f i))) (fun k=>(k:Int)) nc (fun k hk=>by
   have e4:wi ((k:Int)+1)=((k+1:Nat):Int):=by rw[jo (by omega) (by omega)];omega
   simp only[zcO,wl];rw[zn,if_pos (by omega)];simp only[zh,zfw (f i) hk,zl,P52_eq,if_neg (hg i k),qO,Bool.not_true,zg,we,e4])
  rw[show (0:Int)=((0:Nat):Int) from rfl,hs,ql (y:=(nc:Int)) (by simp only[zcO,wl];rw[zn,if_neg (by omega)];rfl)]
 have hs:=zK (B:=zeH P52 (jh nr nc f)) (fun i=>(i:Int)) nr (fun i hi=>by
  have e4:wi ((i:Int)+1)=((i+1:Nat):Int):=by rw[jo (by omega) (by omega)];omega
  simp only[zeH];rw[zn,if_pos (by omega)];simp only[zh,zcg f hi,zl];rw[qS,inner i];simp only[qU,we,e4])
 simp only[P378,S378,hl,hrows,not_true,decide_false,zg,P389_grid hr,zl,zJ,qU];rw[qS,show (0:Int)=((0:Nat):Int) from rfl,hs,ql (y:=(nr:Int)) (by simp only[zeH];rw[zn,if_neg (by omega)];rfl)];rfl
end
end
end Ab
