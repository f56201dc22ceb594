import Derived.Test.YtchidgkpkhloeaaGreatDoorH7
set_option linter.all false
noncomputable section
namespace Ab
open Go
section
end
section
def zf8 (o:List Dim) (l:List Entry):List Cell:=(List.range (sizeN o)).map fun k=>sol o l (qJ o k).1
def P332_eq {o:List Dim} {l:List Entry} (hl:Lst Entry.gd l):P332 o l=some (if wI o l=0 then (zf8 o l,.nil) else ([],zB (wI o l))):=by
 unfold P332;rw[if_pos hl,zgE hl];by_cases h:wI o l=0
 ·rw[if_pos h,h];rfl
 ·rw[if_neg h];have he:zB (wI o l)≠.nil:=fun c=>h (ze6.1 c);generalize zB (wI o l)=e at he;cases e<;>simp_all
def js (o:List Dim) (l:List Entry) (n:Nat):List (List Int):=(List.range n).foldl (fun out k=>if ((zf8 o l).getD k ⟨0,0⟩).k=2 then out++[(qJ o k).1] else out) []
def wE (o:List Dim) (l:List Entry) (n:Nat):js o l (n+1)=if ((zf8 o l).getD n ⟨0,0⟩).k=2 then js o l n++[(qJ o n).1] else js o l n:=by unfold js;rw[Ci,CI];rfl
def zaD (o:List Dim) (l:List Entry):∀ n,(js o l n).length<=n
 | 0=>by simp[js]
 | n+1=>by
  have:=zaD o l n;rw[wE];split
  ·rw[Bn];simp;omega
  ·omega
def yO (o:List Dim) (l:List Entry):(zf8 o l).length=sizeN o:=by simp[zf8]
def P333_eq {o:List Dim} {l:List Entry} (hl:Lst Entry.gd l):P333 o l=some (if wI o l=0 then (js o l (sizeN o),.nil) else ([],zB (wI o l))):=by
 simp only[P333,S333,P332_eq hl,zi];by_cases h:wI o l=0
 ·have ok:=(ziH hl).1 h;have hlen:=ok.cube.out.len;obtain ⟨h1,h2⟩:=ok.cube.out.sizeN;rw[if_pos h,if_pos h];simp only[ym,Bm,zd];have hs:=zH (B:=zgo P69 o (zf8 o l,.nil)) (fun i=>(js o l i,(i:Int))) (sizeN o) (fun i hi=>by
   have e4:wi ((i:Int)+1)=((i+1:Nat):Int):=by rw[qp (by omega) (by omega)];omega
   have hg:(zf8 o l)[i]? = some ((zf8 o l).getD i ⟨0,0⟩):=by rw[Ad,Aa (by rw[yO];exact hi)];rfl
   have hle:=zaD o l i;have hp:=zkg o i (by omega) (by omega) (fun d hd=>⟨ok.pos d hd,by have:=ok.most d hd;omega⟩);simp only[zgo];rw[zh,if_pos (by rw[yO];omega)];simp only[za,hg,zi,hp];rw[wE,zh];have aH:(js o l i).length+[(qJ o i).1].length<=zu:=by simp only[AD];unfold zu;omega
   by_cases c:((zf8 o l).getD i ⟨0,0⟩).k=2
   ·rw[if_pos c,if_pos c];simp only[zp aH,zq,zX,qQ,e4]
   ·rw[if_neg c,if_neg c];simp only[zq,zX,qQ,e4])
  rw[zV,show (([]:List (List Int)),(0:Int))=(js o l 0,((0:Nat):Int)) from rfl,hs,zI (y:=(js o l (sizeN o),((sizeN o:Nat):Int))) (by simp only[zgo];rw[zh,if_neg (by rw[yO];omega)];rfl)];rfl
 ·rw[if_neg h,if_neg h];simp only[zW,decide_eq_false h,BH,zo]
end
section
end
end Ab
