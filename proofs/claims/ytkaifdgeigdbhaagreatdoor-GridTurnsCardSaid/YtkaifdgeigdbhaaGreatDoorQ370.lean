/-
  Plain law: a grid turned is the grid of rows and columns that have changed places; turned twice it is as it was; its cell of a place is that place's.
-/
import Derived.Test.YtkaifdgeigdbhaaGreatDoorW370
import Derived.Test.YtkaifdgeigdbhaaGreatDoorJ2
import Derived.Test.YtkaifdgeigdbhaaGreatDoorH8
set_option linter.unusedVariables false
set_option linter.unusedSimpArgs false
namespace Ab
open Go
theorem ziW {o:List Dim} {l:List Entry} {p:List Int} {row col:Int} (h:zaD o l p row col=0):zaD o l p col row=0:=by
 unfold zaD at h ⊢;by_cases h1:zbc o l=0
 ·rw[if_neg (fun e=>e h1)] at h ⊢;by_cases h2:yx o p=0
  ·rw[if_neg (fun e=>e h2)] at h ⊢;split at h
   ·cases h
   ·rename_i h3;split at h
    ·cases h
    ·rename_i h4;rw[if_neg (by omega),if_neg (by omega)]
  ·rw[if_pos h2] at h;exact absurd h h2
 ·rw[if_pos h1] at h;exact absurd h h1
theorem zfh {o:List Dim} {l:List Entry} {p:List Int} {r c:Nat} (hrc:r≠c):qp (zeJ o c) (zeJ o r) (fun k i=>atG o l p r c i k)=yN o l p c r:=by unfold yN;congr 1;funext k i;unfold atG;rw[List.set_comm _ _ hrc]
theorem dimN_le {o:List Dim} (ok:CubeOk o) (i:Nat):zeJ o i<=12:=by
 unfold zeJ;cases h:o[i]? with
 | none=>simp
 | some d=>exact ((ok.out.dims d (List.mem_of_getElem? h)).len).2
theorem p370 (o:List Dim) (l:List Entry) (hl:Lst Entry.gd l) (p:List Int) (hp:p.length<=9223372036854775807) (row col:Int):P370 o l p row col=some true:=by
 have e1:P8 1=some ⟨1,1⟩:=by rw[P8_eq];rfl
 have e2:P8 2=some ⟨1,2⟩:=by rw[P8_eq];rfl
 have e3:P376 (Grid.mk [0] [0,1] [[⟨1,1⟩,⟨1,2⟩]])=some (qp 2 1 fun k i=>⟨1,(k:Int)+1⟩,.nil):=by
  have:=zde (nr:=1) (nc:=2) (by omega) (by omega) (f:=fun i k=>(⟨1,if k=0 then 1 else 2⟩:Cell)) (fun i k=>by split<;>decide);have h1:qp 1 2 (fun i k=>(⟨1,if k=0 then 1 else 2⟩:Cell))=Grid.mk [0] [0,1] [[⟨1,1⟩,⟨1,2⟩]]:=by rfl
  have h2:qp 2 1 (fun k i=>(⟨1,if k=0 then 1 else 2⟩:Cell))=qp 2 1 fun k i=>⟨1,(k:Int)+1⟩:=by rfl
  rw[h1] at this;rw[this,h2]
 have h21:(qp 2 1 fun k i=>(⟨1,(k:Int)+1⟩:Cell)).cells.length=2:=jO _;have h22:(qp 2 1 fun k i=>(⟨1,(k:Int)+1⟩:Cell)).rows.length=2:=qK 2;have e5:∀ a b,P377 o l p a b=some (if zaD o l p a b=0 then (yN o l p a.toNat b.toNat,.nil) else (⟨[],[],[]⟩,zq (zaD o l p a b))):=fun a b=>by
  unfold P377;rw[if_pos ⟨hl,hp⟩]
  split<;>rfl
 simp only[P370,S370,e1,e2,e3,e5,zl,jd,Bool.not_true,zg,h21,h22,zM,ji,show ((2:Nat):Int)=2 from rfl,not_true,decide_false];by_cases hz:zaD o l p row col=0
 ·obtain ⟨ok,hf,r,c,rfl,rfl,hr,hc,hrc⟩:=make_ok hl hz;have hz2:=ziW hz;have hgood:∀ a b i k,¬ yQ (atG o l p a b i k):=fun a b i k=>good_sol ok.val _;have hnr:=dimN_le ok.cube r;have hnc:=dimN_le ok.cube c;have t0:P378 (yN o l p r c)=some .nil:=zgt (by omega) (by omega) (hgood r c);have t1:P376 (yN o l p r c)=some (yN o l p c r,.nil):=by rw[← zfh hrc];exact zde (by omega) (by omega) (hgood r c)
  have t2:P376 (yN o l p c r)=some (yN o l p r c,.nil):=by rw[← zfh (fun e=>hrc e.symm)];exact zde (by omega) (by omega) (hgood c r)
  have t3:P379 (yN o l p c r) (yN o l p c r)=some true:=zgs (by omega) (by omega);have t4:P379 (yN o l p r c) (yN o l p r c)=some true:=zgs (by omega) (by omega);have t5:P330 o l p=some (sol o l p,.nil):=(by unfold P330;rw[if_pos ⟨hl,hp⟩,zbm hl,(zeN hl).2 ok,zdd o p hp,zam.2 hf];rfl);have hol:=hf.len;have hdr:=List.getElem?_eq_getElem (l:=o) (i:=r) (by omega);have hdc:=List.getElem?_eq_getElem (l:=o) (i:=c) (by omega);have hpr:=List.getElem?_eq_getElem hr;have hpc:=List.getElem?_eq_getElem hc;have mr:=hf.mem _ _ _ hpr hdr;have mc:=hf.mem _ _ _ hpc hdc;have enr:zeJ o r=(o[r]).members.length:=by unfold zeJ;rw[hdr];rfl
  have enc':zeJ o c=(o[c]).members.length:=by unfold zeJ;rw[hdc];rfl
  obtain ⟨i,hi⟩:∃ i:Nat,p[r]=i:=⟨(p[r]).toNat,by omega⟩;obtain ⟨k,hk⟩:∃ k:Nat,p[c]=k:=⟨(p[c]).toNat,by omega⟩;have hset:(p.set r (i:Int)).set c (k:Int)=p:=(by rw[← hi,← hk,List.set_getElem_self,List.set_getElem_self]);have g1:(yN o l p r c).cells[i]? = some (qi (zeJ o c) (atG o l p r c i)):=wt _ (by omega);have g2:(qi (zeJ o c) (atG o l p r c i))[k]? = some (sol o l p):=by rw[zcr _ (by omega)];unfold atG;rw[hset]
  have gl:(yN o l p r c).cells.length=zeJ o r:=jO _;have n1:¬ ((r:Int) < 0):=by omega
  have n2:¬ (((p.length:Nat):Int)<=(r:Int)):=by omega
  have n3:¬ ((c:Int) < 0):=by omega
  have n4:¬ (((p.length:Nat):Int)<=(c:Int)):=by omega
  simp only[if_pos hz,if_pos hz2,Int.toNat_natCast,jd,Bool.not_true,zg,decide_eq_false n1,decide_eq_false n2,decide_eq_false n3,decide_eq_false n4,t0,t1,t2,t3,t4,t5,zl,zM,ji,zh,hpr,hpc,hi,hk,zo,decide_eq_true (show (0:Int)<=(i:Int) by omega),decide_eq_true (show (0:Int)<=(k:Int) by omega),gl,decide_eq_true (show (i:Int) < ((zeJ o r:Nat):Int) by omega),g1,yv,decide_eq_true (show (k:Int) < ((zeJ o c:Nat):Int) by omega),g2];simp
 ·simp only[if_neg hz,zZ,decide_eq_false hz,Bool.not_false,zo]
end Ab
