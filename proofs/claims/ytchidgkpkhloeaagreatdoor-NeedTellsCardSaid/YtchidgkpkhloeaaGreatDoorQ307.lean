/-
  Plain law: on whom any place hangs, on which zau in all, and who is dirty if some change.
-/
import Derived.Test.YtchidgkpkhloeaaGreatDoorW307
import Derived.Test.YtchidgkpkhloeaaGreatDoorHP
set_option linter.unusedVariables false
set_option linter.unusedSimpArgs false
namespace Ab
open Go
theorem tell_loop {o:List Dim} (ok:CubeOk o) (ps:List (List Int)) (hl:ps.length * 24<=140737488351232) (hp:∀ p∈ps,p.length<=9223372036854775807):∃ ns j,lpO (jL P123 P130 zjV o ps) ((0:Int),([]:List Int),(0:Int))=some (.inl (atE o ps,ns,j))∧(atE o ps=0->ns=(ps.map (qE o)).map fun (a:Nat)=>(a:Int)):=by
 have hol:=ok.out.len;have key:∀ m (i:Nat),i+m=ps.length->(∀ j,j < i->atF o (ps.getD j [])=0)->∃ ns j,lpO (jL P123 P130 zjV o ps) ((0:Int),((ps.take i).map (qE o)).map (fun (a:Nat)=>(a:Int)),(i:Int))=some (.inl (atE o ps,ns,j))∧(atE o ps=0->ns=(ps.map (qE o)).map fun (a:Nat)=>(a:Int)):=by
  intro m
  induction m with
  | zero =>
   intro i hi hb;have hz:atE o ps=0:=zfp.2 fun p hp=>by
    obtain ⟨j,hj,rfl⟩:=List.mem_iff_getElem.1 hp;have:=hb j (by omega)
    rwa [List.getD_eq_getElem?_getD,List.getElem?_eq_getElem hj] at this
   refine ⟨_,(i:Int),(zS (y:=((0:Int),((ps.take i).map (qE o)).map (fun (a:Nat)=>(a:Int)),(i:Int))) (by simp only[jL];rw[zj,if_neg (by omega)];rfl)).trans (by rw[hz]),fun _ => ?_⟩;rw[List.take_of_length_le (by omega)]
  | succ m ih =>
   intro i hi hb;have hx:=List.getElem?_eq_getElem (l:=ps) (i:=i) (by omega);have hgx:ps.getD i []=ps[i]:=by rw[List.getD_eq_getElem?_getD,hx];rfl
   have hpl:=hp _ (List.getElem_mem (show i < ps.length by omega));have e4:wi ((i:Int)+1)=((i+1:Nat):Int):=by rw[qV (by omega) (by omega)];omega
   have hlt:((i:Int) < ((ps.length:Nat):Int)):=by omega
   have fault:∀ e:Int,e≠0->atF o (ps.getD i [])=e->jL P123 P130 zjV o ps ((0:Int),((ps.take i).map (qE o)).map (fun (a:Nat)=>(a:Int)),(i:Int))=some (.nx (e,((ps.take i).map (qE o)).map (fun (a:Nat)=>(a:Int)),((i+1:Nat):Int))) ->
     ∃ ns j,lpO (jL P123 P130 zjV o ps) ((0:Int),((ps.take i).map (qE o)).map (fun (a:Nat)=>(a:Int)),(i:Int))=some (.inl (atE o ps,ns,j))∧(atE o ps=0->ns=(ps.map (qE o)).map fun (a:Nat)=>(a:Int)):=by
    intro e he hat hB;have hz:atE o ps=e:=by rw[← hat];exact atE_first (by omega) hb (by rw[hat];exact he)
    rw[wu hB];refine ⟨_,_,zS (y:=(atE o ps,((ps.take i).map (qE o)).map (fun (a:Nat)=>(a:Int)),((i+1:Nat):Int))) ?_,fun h=>absurd (hz.symm.trans h) he⟩;simp only[jL,hz];rw[zj];split
    ·simp only[zD,qG,decide_eq_false he,zk];rfl
    ·rfl
   by_cases hf0:ym o ps[i]=0
   ·have hf:=zaP.1 hf0;have h130:=P130_eq hf hpl (fun d hd=>by have:=((ok.out.dims d hd).len);omega);cases hlf:wy o ps[i] with
    | false =>refine fault 6 (by omega) (by unfold atF;rw[hgx,if_pos hf0,hlf];rfl) ?_;simp only[jL,hlt,decide_true,zn,zD,qG,zd,hx,zl,zfX o _ hpl,hf0,h130,hlf,Bool.not_false,show decide ((6:Int)=0)=false from rfl,zk,qB,e4]
    | true =>
     have hat:atF o (ps.getD i [])=0:=by unfold atF;rw[hgx,if_pos hf0,hlf];rfl
     have hmx:(ps.map (qE o))[i]? = some (qE o ps[i]):=by rw[List.getElem?_map,hx];rfl
     have e5:((ps.take (i+1)).map (qE o)).map (fun (a:Nat)=>(a:Int))=((ps.take i).map (qE o)).map (fun (a:Nat)=>(a:Int))++[((qE o ps[i]:Nat):Int)]:=(by rw[List.take_add_one,hx,List.map_append,List.map_append];rfl);have hck:(((ps.take i).map (qE o)).map (fun (a:Nat)=>(a:Int))).length+[((qE o ps[i]:Nat):Int)].length<=zA:=(by simp only[List.length_map,List.length_take,List.length_singleton];unfold zA;omega);rw[wu (y:=((0:Int),((ps.take (i+1)).map (qE o)).map (fun (a:Nat)=>(a:Int)),((i+1:Nat):Int))) (by
      simp only[jL,hlt,decide_true,zn,zD,qG,zd,hx,zl,zfX o _ hpl,hf0,h130,hlf,Bool.not_true,zk,zh7 ok.out hf,zp hck,qB,e4,e5])]
     refine ih (i+1) (by omega) fun j hj => ?_;by_cases e:j=i
     ·subst e;exact hat
     ·exact hb j (by omega)
   ·refine fault (ym o ps[i]) hf0 (by unfold atF;rw[hgx,if_neg hf0]) ?_;simp only[jL,hlt,decide_true,zn,zD,qG,zd,hx,zl,zfX o _ hpl,decide_eq_false hf0,zk,qB,e4]
 exact key ps.length 0 (by omega) fun j hj=>by omega
theorem p307 (o:List Dim) (p:List Int) (hp:p.length<=9223372036854775807) (ps:List (List Int)) (hl:ps.length * 24<=140737488351232) (hps:∀ q∈ps,q.length<=9223372036854775807):P307 o p ps=some true:=by
 simp only[P307,S307,P324_eq,zfX o p hp,zl,zj,P328_eq o p hp,P317_eq o p hp,P318_eq ps (by omega) hps,qx];by_cases h:(zbr o).2.2=0
 ·have ok:=yi.1 h;obtain ⟨_,h2⟩:=ok.out.sizeN;obtain ⟨ns,j,hB,hns⟩:=tell_loop ok ps hl hps;have d1:=zjB o (qE o p);have d2:=zjK o (ps.map (qE o));have d3:=zbq ok p;have d4:(jA (zbx o p)).length=(zbx o p).length:=qq _;have e0:P104 ([]:List Int) []=some true:=by rw[zdT _ _ (by simp)];rfl
  have e2:P104 (zci o (qE o p)) (zci o (qE o p))=some true:=by rw[zdT _ _ (by omega)];simp
  have e3:P104 (zdj o (ps.map (qE o))) (zdj o (ps.map (qE o)))=some true:=by rw[zdT _ _ (by omega)];simp
  have e4:atE o ps=0->P329 o ns=some (zdj o (ps.map (qE o))):=fun he=>by
   rw[hns he,P329_eq ok (by rw[List.length_map];omega) (fun a ha=>by
    obtain ⟨q,hq,rfl⟩:=List.mem_map.1 ha;exact zaz (atF_fit (zfp.1 he q hq)).1)]
  by_cases hf0:ym o p=0
  ·have hf:=zaP.1 hf0;have t1:P104 (jA (zbx o p)) (zdX o p)=some true:=by rw[zf2 ok hf,zdT _ _ (by rw[← zf2 ok hf];omega)];simp
   by_cases he:atE o ps=0
   ·have e5:=e4 he;rw[he] at hB;simp[h,hf0,hB,he,zh5 ok,zh6 ok hf,P327_eq ok hf,t1,e2,e3,e5]
   ·simp[h,hf0,hB,he,zh5 ok,zh6 ok hf,P327_eq ok hf,t1,e2,e0]
  ·by_cases he:atE o ps=0
   ·have e5:=e4 he;rw[he] at hB;simp[h,hf0,hB,he,e0,e3,e5]
   ·simp[h,hf0,hB,he,e0]
 ·have e0:P104 ([]:List Int) []=some true:=by rw[zdT _ _ (by simp)];rfl
  have hB:lpO (jL P123 P130 zjV o ps) ((zbr o).2.2,([]:List Int),(0:Int))=some (.inl ((zbr o).2.2,[],0)):=zS (by
   simp only[jL];rw[zj];split
   ·simp only[zD,qG,decide_eq_false h,zk];rfl
   ·rfl)
  simp[h,hB,e0]
end Ab
