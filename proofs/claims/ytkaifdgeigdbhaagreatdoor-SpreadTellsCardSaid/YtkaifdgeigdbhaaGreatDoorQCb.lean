/-
  Plain laws: is a cube right?
-/
import Derived.Test.YtkaifdgeigdbhaaGreatDoorC5
set_option linter.all false
namespace Ab
open Go
noncomputable def zen (o:List Dim) (l:List Entry):Int:=if (zlh o).2.2=0 then ziZ o l else (zlh o).2.2
def P349_eq {o:List Dim} {l:List Entry} (hl:Lst Entry.gd l):P349 o l=some (zA (zen o l)):=by
 simp only[P349,S349,P352_eq,zk,zP,P27_eq o l hl];unfold zen;by_cases h:(zlh o).2.2=0
 ·rw[if_pos h,decide_eq_true h];rfl
 ·rw[if_neg h,decide_eq_false h];rfl
def P335_eq (o:List Dim) (l:List Entry) (hl:Lst Entry.gd l):P335 o l=some (zen o l):=by
 simp only[P335,S335,P324_eq,zk,zE];unfold zen;by_cases h:(zlh o).2.2=0
 ·rw[if_pos h,if_pos h,P122_eq o l hl];rfl
 ·rw[if_neg h,if_neg h];rfl
end Ab
