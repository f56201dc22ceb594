import Derived.Test.YtchidgkpkhloeaaGreatDoorHO
import Derived.Test.YtchidgkpkhloeaaGreatDoorH8
import Derived.Test.YtchidgkpkhloeaaGreatDoorHK
open List (getD_eq_getElem?_getD getElem?_eq_getElem getElem?_map getElem?_range getElem_mem length_singleton length_take mem_map mem_of_getElem? take_length)
open Option (map_none map_some)
open Int (toNat_natCast)
set_option linter.unusedVariables false
set_option linter.unusedSimpArgs false
set_option linter.unnecessarySimpa false
noncomputable section
namespace Ab
open Go
section
theorem P250_eq (p:List Int) (dim:Nat) (k:Int) (h1:dim < p.length) (hl:p.length<=1000):P250 p (dim:Int) k=some (p.set dim k):=by simp only[P250,S250];rw[zp (by unfold zu;omega),zp (by omega)];simp only[toNat_natCast,getElem?_eq_getElem h1,zi]
def zdB (o:List Dim) (p:List Int):List Int :=
 if byL o p < 0 then [] else
 match o[(byL o p).toNat]?,p[(byL o p).toNat]? with
 | some d,some i=>(j8 d i.toNat).map fun k=>((we o (p.set (byL o p).toNat k):Nat):Int)
 | _,_=>[]
def toldL (o:List Dim) (p:List Int):List Int:=(zdB o p).foldl insI []
theorem zca {o:List Dim} {p:List Int} {x:Int}:x∈zdB o p↔∃ q,Asks o p q∧x=((we o q:Nat):Int):=by
 unfold zdB;constructor
 ·intro h;split at h
  ·cases h
  ·rename_i hb;split at h
   ·rename_i d i hd hi;obtain ⟨k,hk,rfl⟩:=mem_map.1 h;exact ⟨_,⟨d,i,k,by omega,hd,hi,(zam _).2 k |>.1 hk,rfl⟩,rfl⟩
   ·cases h
 ·rintro ⟨q,⟨d,i,k,hb,hd,hi,hk,rfl⟩,rfl⟩;rw[if_neg (by omega),hd,hi];exact mem_map.2 ⟨k,(zam _).2 k |>.2 hk,rfl⟩
theorem zci {o:List Dim} {p:List Int} {x:Int}:x∈toldL o p↔∃ q,Asks o p q∧x=((we o q:Nat):Int):=by rw[← zca];have:=(zgq (zdB o p) [] .nil).2 x;unfold toldL;rw[this];simp
section
variable {o:List Dim} (ok:CubeOk o)
include ok
theorem zgE:(o.length<=4∧0 < o.length)∧∀ d∈o,0 < d.members.length∧d.members.length<=12:=⟨⟨ok.out.len.2,ok.out.len.1⟩,fun d hd=>(ok.out.dims d hd).len⟩
def zbR (o:List Dim):List (List Int):=(List.range (sizeN o)).map fun n=>toldL o (qw o n).1
end
end
section
section
variable {o:List Dim} {l:List Entry} (ok:RightC o l) {cs:List Cell} (hcs:cs.length=sizeN o) (hin:∀ c∈cs,within c.n=true)
include hcs
theorem cs_get {q:List Int} (hf:Fit o q):zj cs ((we o q:Nat):Int)=some (cs.getD (we o q) ⟨0,0⟩):=by rw[zb,getD_eq_getElem?_getD,getElem?_eq_getElem (by rw[hcs];exact zaG hf)];rfl
include ok hin
theorem P354_eq {p:List Int} (hf:Fit o p):P354 o l p cs=some (zae o l (fun q=>cs.getD (we o q) ⟨0,0⟩) p):=by
 have hl:=ok.cube.out.len;have hlen:=hf.len;have h12:=ok.most;unfold zae;simp only[P354,S354];rw[P337_eq hf (by omega) fun d hd=>by have:=h12 d hd;omega];simp only[zi];rw[zl];by_cases hb:byL o p < 0
 ·rw[if_pos hb,if_pos hb,P134_eq ok.len (by omega)];rfl
 rw[if_neg hb,if_neg hb];obtain ⟨d,i,hd,hi,_⟩:=byL_is (show 0<=byL o p by omega);obtain ⟨b,hbn⟩:∃ b:Nat,byL o p=b:=⟨(byL o p).toNat,by omega⟩;rw[hbn] at hd hi ⊢;simp only[toNat_natCast] at hd hi ⊢;have hr:=hf.mem _ _ _ hi hd;obtain ⟨j,rfl⟩:∃ j:Nat,i=j:=⟨i.toNat,by omega⟩;have hj:j < d.members.length:=by omega
 have hm:=getElem?_eq_getElem hj;have hdm:=mem_of_getElem? hd;have hru:=ok.cube.rules d hdm;have hd12:=h12 d hdm;have hbp:b < p.length:=(List.getElem?_eq_some_iff.1 hi).1;simp only[zb,hd,hi,zi,toNat_natCast,hm];rw[zl];by_cases hfo:(d.members[j]).formula=⟨#[]⟩
 ·rw[if_neg (fun c=>c hfo),if_pos hfo];rw[P100_eq (show d.members.length<=1000 by omega)];simp only[zi];have hpl:(partsOf d.members j).length<=1000:=Nat.le_trans (zaU _ _) (by omega);generalize hF:(fun (c:Cell) (k:Int)=>if sgn d.members k=0 then c else wG c (cs.getD (we o (p.set b k)) ⟨0,0⟩) (sgn d.members k))=F;have hs:=zJ (B:=zfn P140 P146 P250 o p cs (b:Int) d (partsOf d.members j)) (fun i=>((i:Int),(((partsOf d.members j).take i).foldl F ⟨0,0⟩).k,(((partsOf d.members j).take i).foldl F ⟨0,0⟩).n)) (partsOf d.members j).length (fun i hi'=>by
   have hx:=getElem?_eq_getElem hi';have hmem:=getElem_mem hi';generalize hc:((partsOf d.members j).take i).foldl F ⟨0,0⟩=c;rw[jQ F ⟨0,0⟩ _ hx,hc];generalize (partsOf d.members j)[i]=x at hx hmem;obtain ⟨k,rfl,hk⟩:=zb2 hmem;have hmk:=getElem?_eq_getElem hk;have hsg:sgn d.members (k:Int)=(d.members[k]).sign:=by unfold sgn;rw[toNat_natCast,hmk]
   have e4:wi ((i:Int)+1)=((i+1:Nat):Int):=by rw[qL (by omega) (by omega)];omega
   have hfk:=zcN hf hd hk;simp only[zfn];rw[zl,if_pos (by omega)];simp only[zb,hx,hmk,zi];rw[← hF];simp only[hsg];by_cases h0:(d.members[k]).sign=0
   ·simp only[h0,not_true,decide_false,zd,zx,qp,e4,if_true];rfl
   ·have hg:=cs_get hcs hfk;rw[zb] at hg;simp only[h0,not_false_eq_true,decide_true,zm,P250_eq p b k hbp (by omega),zi,P140_eq ok.cube.out hfk,zb,hg,zia,zx,qp,e4,if_false]
    rfl)
  rw[qy,show ((0:Int),((0:Int),(0:Int)))=(((0:Nat):Int),(((partsOf d.members j).take 0).foldl F ⟨0,0⟩).k,(((partsOf d.members j).take 0).foldl F ⟨0,0⟩).n) from rfl,hs];rw[zP (y:=(((partsOf d.members j).length:Int),(((partsOf d.members j).take (partsOf d.members j).length).foldl F ⟨0,0⟩).k,(((partsOf d.members j).take (partsOf d.members j).length).foldl F ⟨0,0⟩).n)) (by simp only[zfn];rw[zl,if_neg (by omega)];rfl)];simp only[qp,take_length]
 ·rw[if_pos hfo,if_neg hfo];have hok:=rdT_ok (za9 hru hm hfo);have h30:=zhl (d.members[j]).formula;have hpos:=hok.pos;have hrl:=zjy (rdT (d.members[j]).formula).1;simp only[P247_eq,zi,P243_eq _ (show (rdT (d.members[j]).formula).1.length<=1000000 by omega)];generalize hN:refsOf (rdT (d.members[j]).formula).1=N at hrl;generalize hL:N.map (fun s=>cs.getD (we o (p.set b (qM d.members s))) ⟨0,0⟩)=L;have hLl:L.length=N.length:=by rw[← hL];simp
  have hs:=zJ (B:=zfo P140 P250 P96 o p cs (b:Int) d N) (fun i=>(L.take i,(i:Int))) N.length (fun i hi'=>by
   have hx:=getElem?_eq_getElem hi';have hmem:N[i]∈refsOf (rdT (d.members[j]).formula).1:=by rw[hN];exact getElem_mem hi'
   obtain ⟨k,hk1,hk2,hk3⟩:=ziQ hru hj (zhk hm hfo hmem);have hlj:L[i]? = some (cs.getD (we o (p.set b (qM d.members N[i]))) ⟨0,0⟩):=by rw[← hL,getElem?_map,hx];rfl
   have e4:wi ((i:Int)+1)=((i+1:Nat):Int):=by rw[qL (by omega) (by omega)];omega
   have hfk:=zcN hf hd hk2;have hg:=cs_get hcs hfk;rw[hk1] at hlj;rw[zb] at hg;simp only[zfo];rw[zl,if_pos (by omega)];have hck:(L.take i).length+[cs.getD (we o (p.set b (k:Int))) ⟨0,0⟩].length<=zu:=by simp only[length_take,length_singleton];unfold zu;omega
   simp only[zb,hx,zi,P96_eq d N[i] (by omega),hk1,P250_eq p b k hbp (by omega),P140_eq ok.cube.out hfk,hg,zp hck,yH,e4,yR hlj])
  rw[qy,show (([]:List Cell),(0:Int))=(L.take 0,((0:Nat):Int)) from rfl,hs,zP (y:=(L.take N.length,(N.length:Int))) (by simp only[zfo];rw[zl,if_neg (by omega)];rfl)];simp only[qp];rw[← hLl,take_length];have e5:wi (((rdT (d.members[j]).formula).1.length:Int) - 1)=(((rdT (d.members[j]).formula).1.length - 1:Nat):Int):=by rw[qL (by omega) (by omega)];omega
  rw[e5];have key:P292 (rdT (d.members[j]).formula).1 (((rdT (d.members[j]).formula).1.length - 1:Nat):Int) N L=some ((evL (rdT (d.members[j]).formula).1 N L (rdT (d.members[j]).formula).1.length).getD ((rdT (d.members[j]).formula).1.length - 1) ⟨0,0⟩):=by
   show zj0 _ _ _ N L=_;refine P292n_eq hok (by omega) hLl.symm (fun c hc => ?_) (fun x hx h2=>by rw[← hN];exact zbb.2 ⟨x,hx,h2,rfl⟩) _ _ (by rw[toNat_natCast];omega) (by omega);rw[← hL] at hc;obtain ⟨s,_,rfl⟩:=mem_map.1 hc;rw[getD_eq_getElem?_getD];cases hq:cs[we o (p.set b (qM d.members s))]? with
   | none=>rfl
   | some c=>exact hin c (mem_of_getElem? hq)
  rw[key];rfl
end
end
section
section
variable {o:List Dim} {l:List Entry} (ok:RightC o l)
structure InvD (o:List Dim) (l:List Entry) (c:List Cell) (d:List Bool):Prop where
 lc:c.length=sizeN o
 ld:d.length=sizeN o
 ins:∀ x∈c,within x.n=true
 told:∀ i,i < sizeN o->d.getD i false=true->c.getD i ⟨0,0⟩=sol o l (qw o i).1
include ok
omit ok in
theorem allT_get {i:Nat} (hi:i < sizeN o):(zbR o)[i]? = some (toldL o (qw o i).1):=by unfold zbR;rw[getElem?_map,getElem?_range hi];rfl
end
end
section
def allN0 (d:Dim):List (List Int):=if (qv d).2=0 then wt d else []
theorem P342_eq (o:List Dim):P342 o=some (if (zbv o).2.2=0 then (o.map wt,.nil) else ([],zn (zbv o).2.2)):=by
 simp only[P342,S342,zjc,zi,zG];by_cases h0:(qj o).2.2=0
 ·obtain ok:=yd.1 h0;have hl:=ok.len;rw[decide_eq_true h0,Bool.not_true,zd];generalize hL:o.map allN0=L;have hLl:L.length=o.length:=by rw[← hL];simp
  have S:=jN (B:=zft P340 o) (fun i=>(L.take i,(i:Int))) o.length (fun i=>(zba o i).map fun r=>(([]:List (List (List Int))),zn r.2.2)) (d:=(L.take o.length,(o.length:Int))) (fun i hi _=>by
   have hx:=getElem?_eq_getElem hi;have e4:wi ((i:Int)+1)=((i+1:Nat):Int):=by rw[qL (by omega) (by omega)];omega
   have hlj:L[i]? = some (allN0 o[i]):=by rw[← hL,getElem?_map,hx];rfl
   simp only[zft];rw[zl,if_pos (by omega)];simp only[zb,hx,zi,P340_eq,zG];unfold zba;rw[hx];simp only;by_cases c:(qv o[i]).2=0
   ·have hck:(L.take i).length+[wt o[i]].length<=zu:=by simp only[length_take,length_singleton];unfold zu;omega
    simp only[c,decide_true,Bool.not_true,zd,if_true,not_true,if_false,map_none,zp hck,yH,e4];rw[← yR hlj];unfold allN0;rw[if_pos c]
   ·simp only[c,decide_false,Bool.not_false,zm,not_false_eq_true,if_true,if_false,map_some]
    rfl) (fun _=>by simp only[zft];rw[zl,if_neg (by omega)];rfl)
  rw[qy,show (([]:List (List (List Int))),(0:Int))=(L.take 0,((0:Nat):Int)) from rfl,S,qb];have hall:zbv o=match (List.range o.length).findSome? (zba o) with | some r=>r | none=>(-1, -1,0):=by unfold zbv;rw[if_neg (fun h=>h h0)];rfl
  rw[hall];cases hs:(List.range o.length).findSome? (zba o) with
  | some r =>obtain ⟨i,hi,hr⟩:=List.exists_of_findSome?_eq_some hs;have hne:=zil hr;simp only[map_some,jn_r];rw[if_neg hne]
  | none =>simp only[map_none,qp];rw[← hLl,take_length,← hL];have ck:CubeOk o:=ji.1 (by rw[hall,hs]);rw[show o.map allN0=o.map wt from List.map_congr_left fun d hd=>by unfold allN0;rw[if_pos (ck.rules d hd)]];rfl
 ·rw[decide_eq_false h0];unfold zbv;rw[if_pos h0,if_neg h0];rfl
section
variable {o:List Dim} (ok:CubeOk o)
include ok
theorem P343_eq {p:List Int} (hf:Fit o p):P343 o (o.map wt) p=some (zdB o p):=by
 obtain ⟨⟨h4,h0⟩,hm⟩:=zgE ok;have hlen:=hf.len;simp only[P343,S343,P353_eq hf (by omega) (fun d hd=>by have:=(hm d hd).2;omega),zi,zl];unfold zdB;by_cases hb:byL o p < 0
 ·rw[if_pos hb,if_pos hb]
 rw[if_neg hb,if_neg hb];obtain ⟨d,i,hd,hi,_⟩:=byL_is (show 0<=byL o p by omega);obtain ⟨b,hbn⟩:∃ b:Nat,byL o p=b:=⟨(byL o p).toNat,by omega⟩;rw[hbn] at hd hi ⊢;simp only[toNat_natCast] at hd hi ⊢;have hr:=hf.mem _ _ _ hi hd;obtain ⟨j,rfl⟩:∃ j:Nat,i=j:=⟨i.toNat,by omega⟩;have hj:j < d.members.length:=by omega
 have hdm:=mem_of_getElem? hd;have hru:=ok.rules d hdm;have h12:=(hm d hdm).2;have hal:(o.map wt)[b]? = some (wt d):=by rw[getElem?_map,hd];rfl
 have hbp:b < p.length:=(List.getElem?_eq_some_iff.1 hi).1;simp only[zb,hal,hi,hd,zi,zfl hj,toNat_natCast];have hnl:=zaI h12 j;generalize hL:(j8 d j).map (fun k=>((we o (p.set b k):Nat):Int))=L;have hLl:L.length=(j8 d j).length:=by rw[← hL];simp
 have hs:=zJ (B:=zfs P49 P70 o p (b:Int) (j8 d j)) (fun i=>(L.take i,(i:Int))) (j8 d j).length (fun i hi'=>by
  have hx:=getElem?_eq_getElem hi';have e4:wi ((i:Int)+1)=((i+1:Nat):Int):=by rw[qL (by omega) (by omega)];omega
  obtain ⟨k,hk1,hk2,hk3⟩:=ziQ hru hj ((zam _).2 _ |>.1 (getElem_mem hi'));have hlj:L[i]? = some ((we o (p.set b (j8 d j)[i]):Nat):Int):=by rw[← hL,getElem?_map,hx];rfl
  have hfk:=zcN hf hd hk2;simp only[zfs];rw[zl,if_pos (by omega)];simp only[zb,hx,zi];rw[hk1] at hlj ⊢;have hck:(L.take i).length+[((we o (p.set b (k:Int)):Nat):Int)].length<=zu:=by simp only[length_take,length_singleton];unfold zu;omega
  rw[P70_eq p b k hbp (by omega)];simp only[zi,zjd hfk.len (by rw[hfk.len];omega),zeJ ok.out hfk,zp hck,yH,e4,yR hlj])
 rw[qy,show (([]:List Int),(0:Int))=(L.take 0,((0:Nat):Int)) from rfl,hs,zP (y:=(L.take (j8 d j).length,((j8 d j).length:Int))) (by simp only[zfs];rw[zl,if_neg (by omega)];rfl)];simp only[qp];rw[← hLl,take_length]
end
def zjY (o:List Dim):List (List Int):=(List.range (sizeN o)).map fun n=>zdB o (qw o n).1
theorem P344_eq (o:List Dim):P344 o=some (if (zbv o).2.2=0 then (zjY o,.nil) else ([],zn (zbv o).2.2)):=by
 simp only[P344,S344,P342_eq,zi];by_cases h:(zbv o).2.2=0
 ·have ok:=ji.1 h;obtain ⟨⟨h4,h0⟩,hm⟩:=zgE ok;obtain ⟨h1,h2⟩:=ok.out.sizeN;rw[if_pos h,if_pos h];simp only[qr,Bool.not_true,zd,zgU o (by omega),h1,zi];generalize hL:zjY o=L;have hLl:L.length=sizeN o:=by rw[← hL];simp[zjY]
  have hs:=zJ (B:=zfr P343s P69 o (o.map wt,.nil) ((sizeN o:Nat):Int)) (fun i=>(L.take i,(i:Int))) (sizeN o) (fun i hi=>by
   have e4:wi ((i:Int)+1)=((i+1:Nat):Int):=by rw[qL (by omega) (by omega)];omega
   have hlj:L[i]? = some (zdB o (qw o i).1):=by rw[← hL];unfold zjY;rw[getElem?_map,getElem?_range hi];rfl
   have hp:P343s o (o.map wt) (qw o i).1=some (zdB o (qw o i).1):=P343_eq ok (wb ok.out i);simp only[zfr];rw[zl,if_pos (by omega)];have hck:(L.take i).length+[zdB o (qw o i).1].length<=zu:=by simp only[length_take,length_singleton];unfold zu;omega
   simp only[P69_eq o i (by omega) (by omega) (fun d hd=>⟨(hm d hd).1,by have:=(hm d hd).2;omega⟩),zi,hp,zp hck,yH,e4,yR hlj])
  rw[qy,show (([]:List (List Int)),(0:Int))=(L.take 0,((0:Nat):Int)) from rfl,hs,zP (y:=(L.take (sizeN o),((sizeN o:Nat):Int))) (by simp only[zfr];rw[zl,if_neg (by omega)];rfl)];simp only[qp];rw[← hLl,take_length]
 ·rw[if_neg h,if_neg h];simp only[zG,decide_eq_false h,Bool.not_false,zm]
end
section
section
variable {o:List Dim} (ok:CubeOk o) {n:List (List Int)} (hn:n.length=sizeN o) (hm:∀ i x,x∈n.getD i []->i < sizeN o∧∃ q,Asks o (qw o i).1 q∧x=((we o q:Nat):Int))
include ok hn hm
theorem zfh:Rng n:=fun i k hk=>by
 obtain ⟨_,q,hq,rfl⟩:=hm i k hk;have hf:=(wN ok (wb ok.out i) hq).1;have:=zaG hf;rw[hn];omega
omit hn in
theorem zdg:Acyc n:=fun i hi=>by
 have step:∀ j k,k∈nd n j->rkP o (qw o k).1 < rkP o (qw o j).1:=(by intro j k hk;obtain ⟨x,hx,rfl⟩:=mem_map.1 hk;obtain ⟨_,q,hq,rfl⟩:=hm j x hx;obtain ⟨hf,hlt⟩:=wN ok (wb ok.out j) hq;rw[toNat_natCast,wV (fun d hd=>((ok.out.dims d hd).len).1) hf];exact hlt);exact ⟨fun k=>rkP o (qw o k).1 < rkP o (qw o i).1,fun k hk=>step i k hk,fun j hj k hk=>Nat.lt_trans (step j k hk) hj,Nat.lt_irrefl _⟩
end
theorem zhY {n m:List (List Int)} (hl:n.length=m.length) (h:∀ i k,k∈nd n i↔k∈nd m i):qm n=qm m:=by
 have hx:∀ out,zgc n out=zgc m out:=(by intro out;unfold zgc;rw[hl];congr 1;funext i;congr 1;rw[Bool.eq_iff_iff,List.all_eq_true,List.all_eq_true];exact ⟨fun h1 k hk=>h1 k ((h i k).2 hk),fun h1 k hk=>h1 k ((h i k).1 hk)⟩);have hb:∀ f out,jv n f out=jv m f out:=by
  intro f
  induction f with
  | zero=>intro out;rfl
  | succ f ih =>
   intro out;unfold jv;rw[hx out];split
   ·exact ih _
   ·rfl
 unfold qm;rw[hl];exact hb _ _
section
variable {o:List Dim}
theorem zi3 (i:Nat) (x:Int) (h:x∈(zjY o).getD i []):i < sizeN o∧∃ q,Asks o (qw o i).1 q∧x=((we o q:Nat):Int):=by
 unfold zjY at h;rw[getD_eq_getElem?_getD,getElem?_map] at h;by_cases hi:i < sizeN o
 ·rw[getElem?_range hi] at h;exact ⟨hi,zca.1 h⟩
 ·rw[List.getElem?_eq_none (by rw[List.length_range];omega)] at h;cases h
theorem zcb (i:Nat) (x:Int) (h:x∈(zbR o).getD i []):i < sizeN o∧∃ q,Asks o (qw o i).1 q∧x=((we o q:Nat):Int):=by
 unfold zbR at h;rw[getD_eq_getElem?_getD,getElem?_map] at h;by_cases hi:i < sizeN o
 ·rw[getElem?_range hi] at h;exact ⟨hi,zci.1 h⟩
 ·rw[List.getElem?_eq_none (by rw[List.length_range];omega)] at h;cases h
theorem all_same (i k:Nat):k∈nd (zjY o) i↔k∈nd (zbR o) i:=by
 have:∀ x,x∈(zjY o).getD i []↔x∈(zbR o).getD i []:=by
  intro x;unfold zjY zbR;rw[getD_eq_getElem?_getD,getD_eq_getElem?_getD,getElem?_map,getElem?_map];cases (List.range (sizeN o))[i]? with
  | none=>simp
  | some j=>simp only[map_some,Option.getD_some,zca,zci]
 unfold nd;simp only[mem_map,this]
end
theorem zfi {o:List Dim} (ok:CubeOk o) (p:List Int):(zdB o p).length<=30:=by
 unfold zdB;split
 ·simp
 ·split
  ·rename_i d i hd hi;rw[List.length_map];exact zaI ((ok.out.dims d (mem_of_getElem? hd)).len).2 _
  ·simp
theorem allA_w {o:List Dim} (ok:CubeOk o) (i:Nat):((zjY o).getD i []).length<=100000:=by
 unfold zjY;rw[getD_eq_getElem?_getD,getElem?_map];cases (List.range (sizeN o))[i]? with
 | none=>simp
 | some j=>have:=zfi ok (qw o j).1;simp only[map_some,Option.getD_some];omega
theorem P334_eq (o:List Dim):P334 o=some (if (zbv o).2.2=0 then (jE (qm (zbR o)),.nil) else ([],zn (zbv o).2.2)):=by
 simp only[P334,S334,P344_eq,zi];by_cases h:(zbv o).2.2=0
 ·have ok:=ji.1 h;obtain ⟨_,h2⟩:=ok.out.sizeN;have hA:(zjY o).length=sizeN o:=by simp[zjY]
  have hT:(zbR o).length=sizeN o:=by simp[zbR]
  rw[if_pos h,if_pos h];simp only[qr,Bool.not_true,zd];rw[P341_eq (zfh ok hA zi3) (by omega) (allA_w ok) (zdg ok zi3)];rw[zhY (by rw[hA,hT]) all_same];rfl
 ·rw[if_neg h,if_neg h];simp only[zG,decide_eq_false h,Bool.not_false,zm]
theorem zek {o:List Dim} (ok:CubeOk o):(jE (qm (zbR o))).length=sizeN o:=by
 have hT:(zbR o).length=sizeN o:=by simp[zbR]
 unfold jE;rw[List.length_map,(zbs (zfh ok hT zcb) (zdg ok zcb)).2,hT]
theorem P328_eq (o:List Dim) (p:List Int) (hp:p.length<=9223372036854775807):P328 o p=some (if (zbv o).2.2=0 then (if jq o p=0 then (yB (zdB o p),.nil) else ([],zn (jq o p))) else ([],zn (zbv o).2.2)):=by
 simp only[P328,S328,P342_eq,zi];by_cases h:(zbv o).2.2=0
 ·rw[if_pos h,if_pos h];simp only[qr,Bool.not_true,zd,zdy o p hp,zi,zG];by_cases h2:jq o p=0
  ·have ok:=ji.1 h;rw[if_pos h2,decide_eq_true h2];have hl:=zfi ok p;simp only[Bool.not_true,zd,P343_eq ok (jS.1 h2),zi,P213,zp (show (zdB o p).length<=zu by unfold zu;omega),zp (show (yB (zdB o p)).length=(zdB o p).length from qS _)]
  ·rw[if_neg h2,decide_eq_false h2];rfl
 ·rw[if_neg h,if_neg h];simp only[zG,decide_eq_false h,Bool.not_false,zm]
theorem sortI_mem {l:List Int} {x:Int}:x∈yB l↔x∈l:=List.mem_mergeSort
end
end Ab
