/-
  Plain law: a grid of a square has a row and a column for each member, and a line for each row and one more.
-/
import Derived.Test.YtkaifdgeigdbhaaGreatDoorMGz
import Derived.Test.YtkaifdgeigdbhaaGreatDoorJ2
import Derived.Test.YtkaifdgeigdbhaaGreatDoorH8
open List (length_map length_singleton map_cons)
set_option linter.unusedVariables false
set_option linter.unusedSimpArgs false
namespace Ab
open Go
theorem sq2_out:∀ n,n < 10->0 < n->(ja (qN n)).2.2=0:=by decide+kernel
theorem sq2_form:∀ n,n < 10->(qN n).all (fun d=>d.members.all fun m=>decide (m.formula=⟨#[]⟩))=true:=by decide+kernel
theorem sq2_fit:∀ n,n < 10->0 < n->wQ (qN n) [0,0]=0:=by decide+kernel
theorem zhn:∀ n,n < 10->∀ i,i < n+1->(((yi ⟨#[120]⟩ n).members.map Member.name).getD i ⟨#[]⟩).size<=8∧(((yi ⟨#[121]⟩ n).members.map Member.name).getD i ⟨#[]⟩).size<=8:=by decide+kernel
theorem ze1 {n:Nat} (h:n < 10):zhw (qN n):=fun d hd m hm=>by
 have:=List.all_eq_true.1 (sq2_form n h) d hd;exact of_decide_eq_true (List.all_eq_true.1 this m hm)
theorem sq2_right {n:Nat} (h:n < 10) (h0:0 < n):RightC (qN n) [] :=
 have ok:=zb1.1 (sq2_out n h h0)
 ⟨ziH ok (ze1 h),⟨ok,by simp,by simp,by simp,by simp⟩,⟨by simp,by simp⟩⟩
theorem zfA {xs:List ByteArray} (h:∀ x∈xs,x.size<=8) (hl:xs.length<=1000):P154 xs ⟨#[32]⟩=some (jS xs ⟨#[32]⟩):=by
 have e:(jS xs ⟨#[32]⟩).size=(Lib.join (xs.map (·.data.toList)) [32]).length:=(by rw[show (jS xs ⟨#[32]⟩).size=(jS xs ⟨#[32]⟩).data.toList.length by rw[Array.length_toList];rfl];simp[jS]);have hl2:∀ ys:List ByteArray,(∀ x∈ys,x.size<=8)->Lib.lens (ys.map (·.data.toList))<=8 * ys.length:=by
  intro ys
  induction ys with
  | nil=>intro _;simp[Lib.lens]
  | cons a r ih =>
   intro h;have h1:=h a (by simp);have h2:=ih fun x hx=>h x (List.mem_cons_of_mem _ hx);have h3:a.data.toList.length=a.size:=by rw[Array.length_toList];rfl
   simp only[Lib.lens,map_cons,List.sum_cons,List.length_cons] at h2 ⊢;omega
 have hs:(jS xs ⟨#[32]⟩).size<=9 * xs.length:=by
  rw[e];cases xs with
  | nil=>simp[Lib.join_nil]
  | cons x r =>have h1:=hl2 (x :: r) h;rw[map_cons] at h1 ⊢;rw[Lib.join_length];simp only[List.length_cons,length_map,List.length_nil] at h1 ⊢;omega
 unfold P154;rw[zA ⟨by omega,by omega⟩]
theorem zh8 {o:List Dim} {a:Nat} {d:Dim} (hd:o[a]? = some d) (hm:d.members.length<=1000000) (ho:o.length<=1000000):P391 o (a:Int) (jM d.members.length)=some (d.members.map Member.name,true):=by
 have ha:=(List.getElem?_eq_some_iff.1 hd).1;have hs:=zK (B:=zeF o (a:Int) (jM d.members.length)) (fun i=>((d.members.take i).map Member.name,(i:Int))) d.members.length (fun i hi=>by
  have e4:wi ((i:Int)+1)=((i+1:Nat):Int):=by rw[jo (by omega) (by omega)];omega
  have hx:=List.getElem?_eq_getElem hi;have hc:(jM d.members.length)[i]? = some (i:Int):=by unfold jM;rw[List.getElem?_map,List.getElem?_range hi];rfl
  have hck:((d.members.take i).map Member.name).length+[(d.members[i]).name].length<=zE:=by simp only[length_map,List.length_take,length_singleton];unfold zE;omega
  have n1:¬ ((i:Int) < 0):=by omega
  have n2:¬ (((d.members.length:Nat):Int)<=(i:Int)):=by omega
  simp only[zeF,jb];rw[zn,if_pos (by omega)];simp only[zh,hc,zl,decide_eq_false n1,zg,hd,decide_eq_false n2,zJ,qU,hx,zA hck,we,e4];rw[List.take_add_one,hx,List.map_append]
  rfl)
 have n1:¬ ((a:Int) < 0):=by omega
 have n2:¬ (((o.length:Nat):Int)<=(a:Int)):=by omega
 simp only[P391,S391,decide_eq_false n1,zg,decide_eq_false n2,zJ,qU];rw[qS,show (([]:List ByteArray),(0:Int))=((d.members.take 0).map Member.name,((0:Nat):Int)) from rfl,hs,ql (y:=((d.members.take d.members.length).map Member.name,(d.members.length:Int))) (by simp only[zeF,jb];rw[zn,if_neg (by omega)];rfl)];simp only[qU,List.take_length]
def za0:ByteArray:=⟨#[45]⟩
theorem zgF {o:List Dim} (ho:(ja o).2.2=0) {dr dc:Dim} (h0:o[0]? = some dr) (h1:o[1]? = some dc) (hr:dr.members.length<=100) (hc:dc.members.length<=100) (hol:o.length<=1000) (hsr:∀ x∈dr.members.map Member.name,x.size<=8) (hsc:∀ x∈dc.members.map Member.name,x.size<=8) :
  ∃ L,P381z o (jh dr.members.length dc.members.length fun _ _=>⟨0,0⟩) 0 1=some (L,.nil)∧L.length=dr.members.length+1:=by
 have hz:zga ⟨0,0⟩=some (za0,.nil):=(by simp only[zga,S139,P52_eq,if_neg zfG,zl,qO,Bool.not_true,zg];rfl);have hj1:P154 ([(⟨#[45]⟩:ByteArray)]++dc.members.map Member.name) ⟨#[32]⟩=some (jS ([(⟨#[45]⟩:ByteArray)]++dc.members.map Member.name) ⟨#[32]⟩):=zfA (fun x hx=>by
  rcases List.mem_append.1 hx with hx | hx
  ·rw[List.mem_singleton.1 hx];decide
  ·exact hsc x hx) (by simp;omega)
 have hck1:List.length ([(⟨#[45]⟩:ByteArray)]:List ByteArray)+(dc.members.map Member.name).length<=zE:=by simp only[length_singleton,length_map];unfold zE;omega
 have hgl:=yK (nr:=dr.members.length) (nc:=dc.members.length) (fun _ _=>(⟨0,0⟩:Cell));have inner:∀ s:ByteArray,lpO (zcN zga (jv dc.members.length fun _=>⟨0,0⟩)) ([s],(0:Int))=some (.inl ([s]++List.replicate dc.members.length za0,(dc.members.length:Int))):=by
  intro s;have hs:=zK (B:=zcN zga (jv dc.members.length fun _=>⟨0,0⟩)) (fun k=>([s]++List.replicate k za0,(k:Int))) dc.members.length (fun k hk=>by
   have e4:wi ((k:Int)+1)=((k+1:Nat):Int):=by rw[jo (by omega) (by omega)];omega
   have hck:([s]++List.replicate k za0).length+[za0].length<=zE:=by simp only[List.length_append,length_singleton,List.length_replicate];unfold zE;omega
   simp only[zcN,wl];rw[zn,if_pos (by omega)];simp only[zh,zfw _ hk,zl,hz,qO,Bool.not_true,zg,zA hck,we,e4];rw[List.append_assoc,List.replicate_succ'])
  rw[show (([s]:List ByteArray),(0:Int))=([s]++List.replicate 0 za0,((0:Nat):Int)) by simp,hs,ql (y:=([s]++List.replicate dc.members.length za0,(dc.members.length:Int))) (by simp only[zcN,wl];rw[zn,if_neg (by omega)];rfl)]
 generalize hf:jS ([(⟨#[45]⟩:ByteArray)]++dc.members.map Member.name) ⟨#[32]⟩=first at hj1;have hs:=zK (B:=zeG zga P154 (jh dr.members.length dc.members.length fun _ _=>⟨0,0⟩) (dr.members.map Member.name,true)) (fun i=>([first]++(List.range i).map (fun i=>jS ([((dr.members.map Member.name).getD i ⟨#[]⟩)]++List.replicate dc.members.length za0) ⟨#[32]⟩),(i:Int))) dr.members.length (fun i hi=>by
  have e4:wi ((i:Int)+1)=((i+1:Nat):Int):=by rw[jo (by omega) (by omega)];omega
  have hx:(dr.members.map Member.name)[i]? = some ((dr.members.map Member.name).getD i ⟨#[]⟩):=by rw[List.getD_eq_getElem?_getD,List.getElem?_eq_getElem (by simpa using hi)];rfl
  have hmem:(dr.members.map Member.name).getD i ⟨#[]⟩∈dr.members.map Member.name:=List.mem_of_getElem? hx;have hj:P154 ([(dr.members.map Member.name).getD i ⟨#[]⟩]++List.replicate dc.members.length za0) ⟨#[32]⟩=some (jS ([(dr.members.map Member.name).getD i ⟨#[]⟩]++List.replicate dc.members.length za0) ⟨#[32]⟩):=zfA (fun x hx=>by
   rcases List.mem_append.1 hx with hx | hx
   ·rw[List.mem_singleton.1 hx];exact hsr _ hmem
   ·rw[List.eq_of_mem_replicate hx];decide) (by simp;omega)
  generalize (dr.members.map Member.name).getD i ⟨#[]⟩=nm at hx hmem hj;have hck:∀ (L:List ByteArray) (y:ByteArray),L.length=i->([first]++L).length+[y].length<=zE:=fun L y hL=>by simp only[List.length_append,length_singleton,hL];unfold zE;omega
  simp only[zeG,length_map];rw[zn,if_pos (by omega)];simp only[zh,hx,zcg _ hi,zl];rw[qS,inner nm];simp only[qU,hj,zl];rw[zA (hck _ _ (by simp))];simp only[we,e4,List.range_succ,List.map_append,map_cons,List.map_nil,List.append_assoc];have:(dr.members.map Member.name).getD i ⟨#[]⟩=nm:=by rw[List.getD_eq_getElem?_getD,hx];rfl
  rw[this])
 refine ⟨[first]++(List.range dr.members.length).map (fun i=>jS ([((dr.members.map Member.name).getD i ⟨#[]⟩)]++List.replicate dc.members.length za0) ⟨#[32]⟩), ?_,by simp⟩
 ·simp only[P381z,S381,P51_eq,ho,show zy 0=Err.nil from rfl,zl,qO,Bool.not_true,zg,P378_grid (show dr.members.length<=1000000 by omega) (show dc.members.length<=1000000 by omega) (fun _ _=>zfG)];have q0:P391 o 0 (jh dr.members.length dc.members.length fun _ _=>(⟨0,0⟩:Cell)).rows=some (dr.members.map Member.name,true):=zh8 (a:=0) h0 (by omega) (by omega);have q1:P391 o 1 (jh dr.members.length dc.members.length fun _ _=>(⟨0,0⟩:Cell)).cols=some (dc.members.map Member.name,true):=zh8 (a:=1) h1 (by omega) (by omega);rw[q0,q1];simp only[zl,Bool.not_true,zg,zJ,qU,zA hck1,hj1];rw[qS,show (([first]:List ByteArray),(0:Int))=([first]++(List.range 0).map (fun i=>jS ([((dr.members.map Member.name).getD i ⟨#[]⟩)]++List.replicate dc.members.length za0) ⟨#[32]⟩),((0:Nat):Int)) by simp,hs,ql (y:=([first]++(List.range dr.members.length).map (fun i=>jS ([((dr.members.map Member.name).getD i ⟨#[]⟩)]++List.replicate dc.members.length za0) ⟨#[32]⟩),(dr.members.length:Int))) (by simp only[zeG,length_map];rw[zn,if_neg (by omega)];rfl)];rfl
theorem p372 (n:Int):P372z n=some true:=by
 simp only[P372z,S372,zn];by_cases c1:n < 1
 ·rw[if_pos c1];rfl
 rw[if_neg c1];by_cases c2:9 < n
 ·simp only[zJ,qU,decide_eq_true c2,zo]
 simp only[zJ,qU,decide_eq_false c2,zg];obtain ⟨m,rfl⟩:∃ m:Nat,n=m:=⟨n.toNat,by omega⟩;have hm:m < 10:=by omega
 have ok:=sq2_right hm (by omega);have hgd:Lst Entry.gd []:=⟨by simp,by simp⟩;have hmk:zc4 (qN m) [] [0,0] 0 1=0:=(by unfold zc4;rw[if_neg (fun h=>h ((zgW hgd).2 ok)),if_neg (fun h=>h (sq2_fit m hm (by omega))),if_neg (by simp),if_neg (by omega)]);have d0:(qN m)[0]? = some (yi ⟨#[120]⟩ m):=rfl;have d1:(qN m)[1]? = some (yi ⟨#[121]⟩ m):=rfl;have l0:(yi ⟨#[120]⟩ m).members.length=m+1:=by simp[yi]
 have l1:(yi ⟨#[121]⟩ m).members.length=m+1:=by simp[yi]
 have hg:zgK (qN m) [] [0,0] 0 1=jh (m+1) (m+1) fun _ _=>⟨0,0⟩:=(by unfold zgK;rw[show dimN (qN m) 0=m+1 from by unfold dimN;rw[d0];exact l0,show dimN (qN m) 1=m+1 from by unfold dimN;rw[d1];exact l1];congr 1;funext i k;exact sol_zero (ze1 hm) _);have e5:P377 (qN m) [] [0,0] 0 1=some (jh (m+1) (m+1) fun _ _=>⟨0,0⟩,.nil):=(by unfold P377;rw[if_pos ⟨hgd,by simp⟩,if_pos hmk];exact congrArg (fun g=>some (g,Err.nil)) hg);have nm:∀ (c:UInt8) (f:∀ i,i < m+1->(((yi ⟨#[c]⟩ m).members.map Member.name).getD i ⟨#[]⟩).size<=8),∀ x∈(yi ⟨#[c]⟩ m).members.map Member.name,x.size<=8:=fun c f x hx=>by
  obtain ⟨i,hi,rfl⟩:=List.mem_iff_getElem.1 hx;have:=f i (by simpa[yi] using hi)
  rwa [List.getD_eq_getElem?_getD,List.getElem?_eq_getElem hi] at this
 obtain ⟨L,hL,hLl⟩:=zgF (sq2_out m hm (by omega)) d0 d1 (by omega) (by omega) (by simp[qN]) (nm 120 fun i hi=>(zhn m hm i hi).1) (nm 121 fun i hi=>(zhn m hm i hi).2);rw[l0,l1] at hL;have w1:wi ((m:Int)+1)=((m+1:Nat):Int):=by rw[jo (by omega) (by omega)];omega
 have w2:wi ((m:Int)+2)=((m+2:Nat):Int):=by rw[jo (by omega) (by omega)];omega
 have g1:(jh (m+1) (m+1) fun _ _=>(⟨0,0⟩:Cell)).rows.length=m+1:=jb _;have g2:(jh (m+1) (m+1) fun _ _=>(⟨0,0⟩:Cell)).cols.length=m+1:=jb _;have g3:(jh (m+1) (m+1) fun _ _=>(⟨0,0⟩:Cell)).cells.length=m+1:=yK _;rw[l0] at hLl;simp only[P22_eq m (by omega),zl,e5,hL,qO,zo,g1,g2,g3,w1,w2,hLl,if_true];simp
end Ab
