/-
  Plain laws: is a cube right?
-/
import Derived.Test.YtkaifdgeigdbhaaGreatDoorC5
set_option linter.all false
namespace Ab
open Go
noncomputable def zgM (o:List Dim) (l:List Entry):Int:=if (allE o).2.2=0 then entsE o l else (allE o).2.2
def P349_eq {o:List Dim} {l:List Entry} (hl:Lst Entry.gd l):P349 o l=some (zm (zgM o l)):=by
 simp only[P349,S349,P352_eq,zk,zF,P27_eq o l hl];unfold zgM;by_cases h:(allE o).2.2=0
 ·rw[if_pos h,decide_eq_true h];rfl
 ·rw[if_neg h,decide_eq_false h];rfl
end Ab
