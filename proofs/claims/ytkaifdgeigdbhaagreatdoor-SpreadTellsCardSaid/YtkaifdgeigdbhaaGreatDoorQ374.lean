/-
  Plain law: SpreadTells answers true.
-/
import Derived.Test.YtkaifdgeigdbhaaGreatDoorW374
import Derived.Test.YtkaifdgeigdbhaaGreatDoorS2
set_option linter.all false
namespace Ab
open Go
def ziW (n p:Int):(wZ n p).1.length<=60:=by
 unfold wZ;split
 ·simp[yA];omega
 ·simp
def ziN (n:Int) (w:List Int):(zbg n w).1.length<=60:=by
 unfold zbg;split
 ·rename_i h;have:=(kx.1 h).l1;rw[zaB];simpa[flo] using this
 ·simp
def zfO {o:List Dim} {l:List Entry} {p:List Int} {n:Int} (hp:p.length<=9223372036854775807):(wO o l p n).1.length<=60∧∀ e∈(wO o l p n).1,e.at_.length<=9223372036854775807:=by
 unfold wO;split
 case isFalse=>simp
 rename_i hc;split
 case isFalse=>simp
 rename_i hf;split
 ·simp
 ·split
  ·simp
  ·rename_i iQ;simp only;generalize (if ((zx o p).map (zii l)).any (fun k=>decide (0 < k))=true∧((zx o p).map (zii l)).any (fun k=>decide (k < 0))=false then zbg n ((zx o p).map (zii l)) else wZ n (zx o p).length)=r
   split
   ·refine ⟨by simp;omega,fun e he => ?_⟩;obtain ⟨i,hi,rfl⟩:=BF he;have aV:EntsOk o l:=ziY.1 (by unfold zen at hc;split at hc<;>first | exact hc | (rename_i g;exact absurd hc g))
    simp at hi;rw[List.getElem_zipWith];obtain ⟨f1,_⟩:=ziO aV.out (wX.1 hf) (Ay (l:=zx o p) (n:=i) (by omega));show List.length _<=_;rw[f1.len,← (wX.1 hf).len];exact hp
   ·simp
def p374 (n parts:Int) (w:List Int) (o:List Dim) (l:List Entry) (hl:Lst Entry.gd l) (p:List Int) (hp:p.length<=9223372036854775807):P374 n parts w o l p=some true:=by have h1:=ziW n parts;have h2:=ziN n w;have h3:=zfO (o:=o) (l:=l) (n:=n) hp;unfold P374 S374;simp only[P383_eq,P384_eq,P385_eq,P386_eq,P387_eq hl hp,P382_eq hl hp,zk,P92_errOf,P104_eq _ _ (show (wZ n parts).1.length<=9223372036854775807 by omega),P104_eq _ _ (show (zbg n w).1.length<=9223372036854775807 by omega),P388_eq _ _ (show (wO o l p n).1.length<=9223372036854775807 by omega) h3.2];simp
end Ab
