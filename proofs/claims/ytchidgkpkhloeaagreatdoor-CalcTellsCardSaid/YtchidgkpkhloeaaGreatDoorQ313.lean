/-
  Plain law: all cells of any cube, its faults, the order of its places.
-/
import Derived.Test.YtchidgkpkhloeaaGreatDoorW313
import Derived.Test.YtchidgkpkhloeaaGreatDoorHH
set_option linter.all false
namespace Ab
open Go
def zkY {o:List Dim} {l:List Entry} (ok:RightC o l):lpO (zbe zlc o (zf8 o l)) (([]:List (List Int)),(0:Int))=some (.inl (js o l (sizeN o),((sizeN o:Nat):Int))):=by
 have hlen:=ok.cube.out.len;obtain ⟨h1,h2⟩:=ok.cube.out.sizeN;have hs:=zH (B:=zbe zlc o (zf8 o l)) (fun i=>(js o l i,(i:Int))) (sizeN o) (fun i hi=>by
  have e4:wi ((i:Int)+1)=((i+1:Nat):Int):=by rw[qp (by omega) (by omega)];omega
  have hg:(zf8 o l)[i]? = some ((zf8 o l).getD i ⟨0,0⟩):=by rw[Ad,Aa (by rw[yO];exact hi)];rfl
  have hle:=zaD o l i;have hp:=zja o i (by omega) (by omega) (fun d hd=>⟨ok.pos d hd,by have:=ok.most d hd;omega⟩);simp only[zbe];rw[zh,if_pos (by rw[yO];omega)];simp only[za,hg,zi,hp];rw[wE,zh];have aH:(js o l i).length+[(qJ o i).1].length<=zu:=by simp only[AD];unfold zu;omega
  by_cases c:((zf8 o l).getD i ⟨0,0⟩).k=2
  ·rw[if_pos c,if_pos c];simp only[zp aH,zq,zX,qQ,e4]
  ·rw[if_neg c,if_neg c];simp only[zq,zX,qQ,e4])
 rw[show (([]:List (List Int)),(0:Int))=(js o l 0,((0:Nat):Int)) from rfl,hs,zI (y:=(js o l (sizeN o),((sizeN o:Nat):Int))) (by simp only[zbe];rw[zh,if_neg (by rw[yO];omega)];rfl)]
def ze5 (o:List Dim):lpO (zbe zlc o []) (([]:List (List Int)),(0:Int))=some (.inl ([],0)):=zI (by simp only[zbe];rw[zh,if_neg (by simp)];rfl)
def zcj {o:List Dim} {l:List Entry}:∀ n,∀ x∈js o l n,x.length=o.length
 | 0,x,h=>by simp[js] at h
 | n+1,x,h=>by
  rw[wE] at h;split at h
  ·rcases Al.1 h with h | h
   ·exact zcj n x h
   ·rw[Ak.1 h,zfO]
  ·exact zcj n x h
def p313 (o:List Dim) (l:List Entry) (hl:Lst Entry.gd l):P313 o l=some true:=by
 simp only[P313,S313,P335_eq o l hl,P324_eq,P332_eq hl,P333_eq hl,P334_eq,zi,zh,zV];have order:(jn (σ:=List Int) (α:=Bool) (if (zaZ o).2.2=0 then (bno (P338 o) fun gV=>bno (P322 gV) fun eL=>zt (some eL)) else zt (some ([]:List Int))) fun ku=>bno (P104 (if (zaZ o).2.2=0 then (qA (jf (wY o)),Err.nil) else ([],zB (zaZ o).2.2)).1 ku) fun gU=>some gU)=some true:=by
  by_cases h:(zaZ o).2.2=0
  ·have ok:=jK.1 h;obtain ⟨_,h2⟩:=ok.out.sizeN;simp[h,zgG ok,zdL ok,zes _ _ (show (qA (jf (wY o))).length<=9223372036854775807 by rw[zcq ok];omega)]
  ·simp[h,zes [] [] (by simp)]
 by_cases hc:wI o l=0
 ·have ok:=(ziH hl).1 hc;have h:(zaZ o).2.2=0:=jK.2 ok.cube;obtain ⟨_,h2⟩:=ok.cube.out.sizeN;have kI:=zaD o l (sizeN o);simp[hc,h,P336_eq ok,zkY ok,P24_eq _ _ (show (zf8 o l).length<=9223372036854775807 by rw[yO];omega),zjc _ _ (show (js o l (sizeN o)).length<=9223372036854775807 by omega) (fun x hx=>by rw[zcj _ x hx];have:=ok.cube.out.len;omega),zgG ok.cube,zdL ok.cube,zes _ _ (show (qA (jf (wY o))).length<=9223372036854775807 by rw[zcq ok.cube];omega)]
 ·by_cases h:(zaZ o).2.2=0
  ·have ok:=jK.1 h;obtain ⟨_,h2⟩:=ok.out.sizeN;simp[hc,h,ze5,P24_eq [] [] (by simp),zjc [] [] (by simp) (by simp),zgG ok,zdL ok,zes _ _ (show (qA (jf (wY o))).length<=9223372036854775807 by rw[zcq ok];omega)]
  ·simp[hc,h,ze5,P24_eq [] [] (by simp),zjc [] [] (by simp) (by simp),zes [] [] (by simp)]
end Ab
