import Derived.Test.YtchidgkpkhloeaaGreatDoorHO
import Derived.Test.YtchidgkpkhloeaaGreatDoorH8
import Derived.Test.YtchidgkpkhloeaaGreatDoorHK
set_option linter.all false
noncomputable section
namespace Ab
open Go
section
def zi8 (p:List Int) (dim:Nat) (k:Int) (h1:dim < p.length) (hl:p.length<=1000):P250 p (dim:Int) k=some (p.set dim k):=by simp only[P250,S250];rw[zp (by unfold zu;omega),zp (by omega)];simp only[Aj,Aa h1,zi]
def zhZ (o:List Dim) (p:List Int):List Int :=
 if byL o p < 0 then [] else
 match o[(byL o p).toNat]?,p[(byL o p).toNat]? with
 | some d,some i=>(qL d i.toNat).map fun k=>((wn o (p.set (byL o p).toNat k):Nat):Int)
 | _,_=>[]
def zbj (o:List Dim) (p:List Int):List Int:=(zhZ o p).foldl zbP []
def zf5 {o:List Dim} {p:List Int} {x:Int}:x∈zhZ o p↔∃ q,Asks o p q∧x=((wn o q:Nat):Int):=by
 unfold zhZ;constructor
 ·intro h;split at h
  ·cases h
  ·rename_i hb;split at h
   ·rename_i d i hd hi;obtain ⟨k,hk,rfl⟩:=Am.1 h;exact ⟨_,⟨d,i,k,by omega,hd,hi,(ww _).2 k |>.1 hk,rfl⟩,rfl⟩
   ·cases h
 ·rintro ⟨q,⟨d,i,k,hb,hd,hi,hk,rfl⟩,rfl⟩;rw[if_neg (by omega),hd,hi];exact Am.2 ⟨k,(ww _).2 k |>.2 hk,rfl⟩
def wZ {o:List Dim} {p:List Int} {x:Int}:x∈zbj o p↔∃ q,Asks o p q∧x=((wn o q:Nat):Int):=by rw[← zf5];have:=(zdF (zhZ o p) [] .nil).2 x;unfold zbj;rw[this];simp
section
variable {o:List Dim} (ok:CubeOk o)
include ok
def zaf:(o.length<=4∧0 < o.length)∧∀ d∈o,0 < d.members.length∧d.members.length<=12:=⟨⟨ok.out.len.2,ok.out.len.1⟩,fun d hd=>(ok.out.dims d hd).len⟩
def P326_eq:P326 o=some (o.map jJ):=by
 obtain ⟨⟨h4,h0⟩,hm⟩:=zaf ok;simp only[P326,S326];generalize hL:o.map jJ=L;have cY:L.length=o.length:=by rw[← hL];simp
 have hs:=zH (B:=zgp P321 o) (fun i=>(L.take i,(i:Int))) o.length (fun i hi=>by
  have hd:=Aa hi;have e4:wi ((i:Int)+1)=((i+1:Nat):Int):=by rw[qp (by omega) (by omega)];omega
  have cF:L[i]? = some (jJ o[i]):=by rw[← hL,Ah,hd];rfl
  have hr:=ok.rules _ (Ay hi);simp only[zgp];rw[zh,if_pos (by omega)];have aH:(L.take i).length+[jJ o[i]].length<=zu:=by simp only[AP,AD];unfold zu;omega
  simp only[za,hd,zi,P321_eq,hr,if_true,zp aH,qQ,e4,jV cF])
 rw[zV,show (([]:List (List (List Int))),(0:Int))=(L.take 0,((0:Nat):Int)) from rfl,hs,zI (y:=(L.take o.length,(o.length:Int))) (by simp only[zgp];rw[zh,if_neg (by omega)];rfl)];simp only[zX];rw[← cY,AZ]
def P325_eq {p:List Int} (hf:Fit o p):P325 o (o.map jJ) p=some (zbj o p):=by
 obtain ⟨⟨h4,h0⟩,hm⟩:=zaf ok;have hlen:=hf.len;simp only[P325,S325,P337_eq hf (by omega) (fun d hd=>by have:=(hm d hd).2;omega),zi,zh];unfold zbj zhZ;by_cases hb:byL o p < 0
 ·rw[if_pos hb,if_pos hb];rfl
 rw[if_neg hb,if_neg hb];obtain ⟨d,i,hd,hi,_⟩:=zj3 (show 0<=byL o p by omega);obtain ⟨b,fL⟩:∃ b:Nat,byL o p=b:=⟨(byL o p).toNat,by omega⟩;rw[fL] at hd hi ⊢;simp only[Aj] at hd hi ⊢;have hr:=hf.mem _ _ _ hi hd;obtain ⟨j,rfl⟩:∃ j:Nat,i=j:=⟨i.toNat,by omega⟩;have hj:j < d.members.length:=by omega
 have dt:=Ae hd;have eX:=ok.rules d dt;have fN:=(hm d dt).2;have kL:(o.map jJ)[b]? = some (jJ d):=by rw[Ah,hd];rfl
 have gQ:b < p.length:=(Ac.1 hi).1;simp only[za,kL,hi,hd,zi,oH hj,Aj];have rU:=yn fN j;generalize hL:(qL d j).map (fun k=>((wn o (p.set b k):Nat):Int))=L;have cY:L.length=(qL d j).length:=by rw[← hL];simp
 have hs:=zH (B:=zgq P140 P250 zff o p (b:Int) (qL d j)) (fun i=>((L.take i).foldl zbP [],(i:Int))) (qL d j).length (fun i aA=>by
  have hx:=Aa aA;have e4:wi ((i:Int)+1)=((i+1:Nat):Int):=by rw[qp (by omega) (by omega)];omega
  obtain ⟨k,bS,bB,nE⟩:=zhC eX hj ((ww _).2 _ |>.1 (Ay aA));have cF:L[i]? = some ((wn o (p.set b (qL d j)[i]):Nat):Int):=by rw[← hL,Ah,hx];rfl
  have fp:=zch hf hd bB;have hle:=zaB (L.take i) [];have hle2:(L.take i).length<=L.length:=by rw[AP];omega
  simp only[zgq];rw[zh,if_pos (by omega)];simp only[za,hx,zi];rw[bS] at cF ⊢;rw[zi8 p b k gQ (by omega)];simp only[zi,zjb ok.out fp];rw[zgF _ _ (by simp only[Bq] at hle;omega)];simp only[zi,qQ,e4];rw[jq zbP [] _ cF])
 rw[zV,show (([]:List Int),(0:Int))=((L.take 0).foldl zbP [],((0:Nat):Int)) from rfl,hs,zI (y:=((L.take (qL d j).length).foldl zbP [],((qL d j).length:Int))) (by simp only[zgq];rw[zh,if_neg (by omega)];rfl)];simp only[zX];rw[← cY,AZ]
def wY (o:List Dim):List (List Int):=(List.range (sizeN o)).map fun n=>zbj o (qJ o n).1
def zgG:P338 o=some (wY o):=by
 obtain ⟨⟨h4,h0⟩,hm⟩:=zaf ok;obtain ⟨h1,h2⟩:=ok.out.sizeN;simp only[P338,S338,P326_eq ok,P106_eq o (by omega),h1,zi];generalize hL:wY o=L;have cY:L.length=sizeN o:=by rw[← hL];simp[wY]
 have hs:=zH (B:=zgk zlc P325 o (o.map jJ) ((sizeN o:Nat):Int)) (fun i=>(L.take i,(i:Int))) (sizeN o) (fun i hi=>by
  have e4:wi ((i:Int)+1)=((i+1:Nat):Int):=by rw[qp (by omega) (by omega)];omega
  have cF:L[i]? = some (zbj o (qJ o i).1):=by rw[← hL];unfold wY;rw[Ah,A4 hi];rfl
  simp only[zgk];rw[zh,if_pos (by omega)];have aH:(L.take i).length+[zbj o (qJ o i).1].length<=zu:=by simp only[AP,AD];unfold zu;omega
  simp only[zja o i (by omega) (by omega) (fun d hd=>⟨(hm d hd).1,by have:=(hm d hd).2;omega⟩),zi,P325_eq ok (j9 ok.out i),zp aH,qQ,e4,jV cF])
 rw[zV,show (([]:List (List Int)),(0:Int))=(L.take 0,((0:Nat):Int)) from rfl,hs,zI (y:=(L.take (sizeN o),((sizeN o:Nat):Int))) (by simp only[zgk];rw[zh,if_neg (by omega)];rfl)];simp only[zX];rw[← cY,AZ]
end
end
section
section
variable {o:List Dim} {l:List Entry} (ok:RightC o l) {cs:List Cell} (ao:cs.length=sizeN o) (aK:∀ c∈cs,within c.n=true)
include ao
def cs_get {q:List Int} (hf:Fit o q):zl cs ((wn o q:Nat):Int)=some (cs.getD (wn o q) ⟨0,0⟩):=by rw[za,Ad,Aa (by rw[ao];exact zbt hf)];rfl
include ok aK
def P354_eq {p:List Int} (hf:Fit o p):P354 o l p cs=some (zbS o l (fun q=>cs.getD (wn o q) ⟨0,0⟩) p):=by
 have hl:=ok.cube.out.len;have hlen:=hf.len;have fN:=ok.most;unfold zbS;simp only[P354,S354];rw[P337_eq hf (by omega) fun d hd=>by have:=fN d hd;omega];simp only[zi];rw[zh];by_cases hb:byL o p < 0
 ·rw[if_pos hb,if_pos hb,P134_eq ok.len (by omega)];rfl
 rw[if_neg hb,if_neg hb];obtain ⟨d,i,hd,hi,_⟩:=zj3 (show 0<=byL o p by omega);obtain ⟨b,fL⟩:∃ b:Nat,byL o p=b:=⟨(byL o p).toNat,by omega⟩;rw[fL] at hd hi ⊢;simp only[Aj] at hd hi ⊢;have hr:=hf.mem _ _ _ hi hd;obtain ⟨j,rfl⟩:∃ j:Nat,i=j:=⟨i.toNat,by omega⟩;have hj:j < d.members.length:=by omega
 have hm:=Aa hj;have dt:=Ae hd;have eX:=ok.cube.rules d dt;have sB:=fN d dt;have gQ:b < p.length:=(Ac.1 hi).1;simp only[za,hd,hi,zi,Aj,hm];rw[zh];by_cases cX:(d.members[j]).formula=⟨#[]⟩
 ·rw[if_neg (fun c=>c cX),if_pos cX];rw[zjd (show d.members.length<=1000 by omega)];simp only[zi];have gm:(partsOf d.members j).length<=1000:=Aw (zaz _ _) (by omega);generalize hF:(fun (c:Cell) (k:Int)=>if sgn d.members k=0 then c else zaQ c (cs.getD (wn o (p.set b k)) ⟨0,0⟩) (sgn d.members k))=F;have hs:=zH (B:=zga P140 P146 P250 o p cs (b:Int) d (partsOf d.members j)) (fun i=>((i:Int),(((partsOf d.members j).take i).foldl F ⟨0,0⟩).k,(((partsOf d.members j).take i).foldl F ⟨0,0⟩).n)) (partsOf d.members j).length (fun i aA=>by
   have hx:=Aa aA;have aM:=Ay aA;generalize hc:((partsOf d.members j).take i).foldl F ⟨0,0⟩=c;rw[jq F ⟨0,0⟩ _ hx,hc];generalize (partsOf d.members j)[i]=x at hx aM;obtain ⟨k,rfl,hk⟩:=zas aM;have nu:=Aa hk;have fH:sgn d.members (k:Int)=(d.members[k]).sign:=by unfold sgn;rw[Aj,nu]
   have e4:wi ((i:Int)+1)=((i+1:Nat):Int):=by rw[qp (by omega) (by omega)];omega
   have fp:=zch hf hd hk;simp only[zga];rw[zh,if_pos (by omega)];simp only[za,hx,nu,zi];rw[← hF];simp only[fH];by_cases h0:(d.members[k]).sign=0
   ·simp only[h0,not_true,decide_false,zd,zq,zX,e4,if_true];rfl
   ·have hg:=cs_get ao fp;rw[za] at hg;simp only[h0,not_false_eq_true,decide_true,zo,zi8 p b k gQ (by omega),zi,zjb ok.cube.out fp,za,hg,oF,zq,zX,e4,if_false]
    rfl)
  rw[zV,show ((0:Int),((0:Int),(0:Int)))=(((0:Nat):Int),(((partsOf d.members j).take 0).foldl F ⟨0,0⟩).k,(((partsOf d.members j).take 0).foldl F ⟨0,0⟩).n) from rfl,hs];rw[zI (y:=(((partsOf d.members j).length:Int),(((partsOf d.members j).take (partsOf d.members j).length).foldl F ⟨0,0⟩).k,(((partsOf d.members j).take (partsOf d.members j).length).foldl F ⟨0,0⟩).n)) (by simp only[zga];rw[zh,if_neg (by omega)];rfl)];simp only[zX,AZ]
 ·rw[if_pos cX,if_neg cX];have aX:=rdT_ok (zbY eX hm cX);have oC:=zfs (d.members[j]).formula;have aW:=aX.pos;have hrl:=zkG (rdT (d.members[j]).formula).1;simp only[P247_eq,zi,P243_eq _ (show (rdT (d.members[j]).formula).1.length<=1000000 by omega)];generalize hN:refsOf (rdT (d.members[j]).formula).1=N at hrl;generalize hL:N.map (fun s=>cs.getD (wn o (p.set b (zU d.members s))) ⟨0,0⟩)=L;have cY:L.length=N.length:=by rw[← hL];simp
  have hs:=zH (B:=zgb P140 P250 P96 o p cs (b:Int) d N) (fun i=>(L.take i,(i:Int))) N.length (fun i aA=>by
   have hx:=Aa aA;have aM:N[i]∈refsOf (rdT (d.members[j]).formula).1:=by rw[hN];exact Ay aA
   obtain ⟨k,bS,bB,nE⟩:=zhC eX hj (zie hm cX aM);have cF:L[i]? = some (cs.getD (wn o (p.set b (zU d.members N[i]))) ⟨0,0⟩):=by rw[← hL,Ah,hx];rfl
   have e4:wi ((i:Int)+1)=((i+1:Nat):Int):=by rw[qp (by omega) (by omega)];omega
   have fp:=zch hf hd bB;have hg:=cs_get ao fp;rw[bS] at cF;rw[za] at hg;simp only[zgb];rw[zh,if_pos (by omega)];have aH:(L.take i).length+[cs.getD (wn o (p.set b (k:Int))) ⟨0,0⟩].length<=zu:=by simp only[AP,AD];unfold zu;omega
   simp only[za,hx,zi,P96_eq d N[i] (by omega),bS,zi8 p b k gQ (by omega),zjb ok.cube.out fp,hg,zp aH,qQ,e4,jV cF])
  rw[zV,show (([]:List Cell),(0:Int))=(L.take 0,((0:Nat):Int)) from rfl,hs,zI (y:=(L.take N.length,(N.length:Int))) (by simp only[zgb];rw[zh,if_neg (by omega)];rfl)];simp only[zX];rw[← cY,AZ];have e5:wi (((rdT (d.members[j]).formula).1.length:Int) - 1)=(((rdT (d.members[j]).formula).1.length - 1:Nat):Int):=by rw[qp (by omega) (by omega)];omega
  rw[e5];have key:P292 (rdT (d.members[j]).formula).1 (((rdT (d.members[j]).formula).1.length - 1:Nat):Int) N L=some ((evL (rdT (d.members[j]).formula).1 N L (rdT (d.members[j]).formula).1.length).getD ((rdT (d.members[j]).formula).1.length - 1) ⟨0,0⟩):=by
   show zhT _ _ _ N L=_;refine P292n_eq aX (by omega) cY.symm (fun c hc => ?_) (fun x hx h2=>by rw[← hN];exact zb0.2 ⟨x,hx,h2,rfl⟩) _ _ (by rw[Aj];omega) (by omega);rw[← hL] at hc;obtain ⟨s,_,rfl⟩:=Am.1 hc;rw[Ad];cases hq:cs[wn o (p.set b (zU d.members s))]? with
   | none=>rfl
   | some c=>exact aK c (Ae hq)
  rw[key];rfl
end
end
section
def zjZ (d:List Bool):Nat:=d.count true
def cnt_le (d:List Bool):zjZ d<=d.length:=List.count_le_length
def cnt_set:∀ (d:List Bool) (i:Nat),d[i]? = some false->zjZ (d.set i true)=zjZ d+1
 | [],i,h=>by simp at h
 | b :: d,0,h=>by
  simp only[BU,Option.some.injEq] at h;subst h;simp[zjZ]
 | b :: d,i+1,h=>by
  have:=cnt_set d i (by simpa using h);unfold zjZ at this ⊢;rw[C1,List.count_cons,List.count_cons,this];omega
def zdC {d:List Bool} {i:Nat} (h:i < d.length):d[i]? = some (d.getD i false):=by rw[Ad,Aa h];rfl
def getB_set {d:List Bool} {i j:Nat} (h:i < d.length):(d.set i true).getD j false=if j=i then true else d.getD j false:=by
 simp only[Ad,BD];by_cases e:i=j
 ·subst e;simp[h]
 ·rw[if_neg e,if_neg (fun c=>e c.symm)]
section
variable {o:List Dim} {l:List Entry} (ok:RightC o l)
def zbp (o:List Dim) (d:List Bool) (i:Nat):Prop:=d.getD i false=false∧∀ x∈zbj o (qJ o i).1,d.getD x.toNat false=true
structure InvD (o:List Dim) (l:List Entry) (c:List Cell) (d:List Bool):Prop where
 lc:c.length=sizeN o
 ld:d.length=sizeN o
 ins:∀ x∈c,within x.n=true
 told:∀ i,i < sizeN o->d.getD i false=true->c.getD i ⟨0,0⟩=sol o l (qJ o i).1
include ok
omit ok in
def allT_get {i:Nat} (hi:i < sizeN o):(wY o)[i]? = some (zbj o (qJ o i).1):=by unfold wY;rw[Ah,A4 hi];rfl
def zfk {i:Nat} {x:Int} (hx:x∈zbj o (qJ o i).1):∃ q,Asks o (qJ o i).1 q∧x=((wn o q:Nat):Int)∧wn o q < sizeN o∧Fit o q∧(qJ o (wn o q)).1=q:=by obtain ⟨q,hq,rfl⟩:=wZ.1 hx;have hf:=(yU ok.cube (j9 ok.cube.out i) hq).1;exact ⟨q,hq,rfl,zbt hf,hf,by rw[wy ok.pos hf]⟩
def told_len (i:Nat):(zbj o (qJ o i).1).length<=30:=by
 have:=zaB (zhZ o (qJ o i).1) [];unfold zbj;refine Aw this ?_;simp only[Bq,Bg];unfold zhZ;split
 ·simp
 ·split
  ·rename_i d j hd hj;rw[Ao];exact yn (ok.most d (Ae hd)) _
  ·simp
def zkH {i:Nat} (hi:i < sizeN o) {ag:Bool} {c:List Cell} {d:List Bool} (hd:d.length=sizeN o):∃ f k,lpO (zgn (wY o) (ag,(i:Int),c,d)) (!d.getD i false,(0:Int))=some (.inl (f,k))∧(f=true↔zbp o d i):=by
 have hg:=allT_get hi;have hlen:=told_len ok i;generalize hL:zbj o (qJ o i).1=L at hg hlen
 obtain ⟨r,h1,h2⟩:=zav (B:=zgn (wY o) (ag,(i:Int),c,d)) (fun x=>∃ k:Nat,x.2=(k:Int)∧k<=L.length∧(x.1=true->d.getD i false=false∧∀ j y,j < k->L[j]? = some y->d.getD y.toNat false=true)∧(x.1=false->¬ zbp o d i)) (fun x=>L.length - x.2.toNat)
  (fun r=>∃ f k,r=.inl (f,k)∧(f=true↔zbp o d i)) (fun x hx=>by
   obtain ⟨b,x2⟩:=x;obtain ⟨k,hk,hle,ht,fq⟩:=hx;have hk:x2=(k:Int):=hk;subst hk;simp only[zgn,za,hg,zi];rw[zh];by_cases ae:k < L.length
   ·rw[if_pos (by omega)];cases b with
    | false =>simp only[zq,zX,zd,kq];exact ⟨false,_,rfl,by simp;exact fq rfl⟩
    | true =>
     have hx:=Aa ae;obtain ⟨q,hq,e,bA,_,_⟩:=zfk ok (i:=i) (x:=L[k]) (by rw[hL];exact Ay ae);simp only[zq,zX,zo,hx,zi,e];rw[zp (by omega),Aj,zdC (by omega)];simp only[zi,qQ];obtain ⟨t1,t2⟩:=ht rfl;refine ⟨⟨k+1,by rw[qp (by omega) (by omega)];omega,by omega,fun hb=>⟨t1,fun j y hj hy => ?_⟩,fun hb hr => ?_⟩, ?_⟩
     ·by_cases ej:j=k
      ·subst ej;rw[hx] at hy;obtain rfl:=Option.some.inj hy;rw[e,Aj];exact hb
      ·exact t2 j y (by omega) hy
     ·have:=hr.2 L[k] (by rw[hL];exact Ay ae);rw[e,Aj] at this;rw[this] at hb;cases hb
     ·show L.length - (wi ((k:Int)+1)).toNat < L.length - ((k:Int)).toNat;rw[qp (by omega) (by omega)];omega
   ·rw[if_neg (by omega)];simp only[zq,zX,zd,kq];refine ⟨b,_,rfl, ?_⟩;cases b with
    | false=>simp;exact fq rfl
    | true =>
     obtain ⟨t1,t2⟩:=ht rfl;simp only[true_iff];refine ⟨t1,fun x hx => ?_⟩;rw[hL] at hx;obtain ⟨j,hj,rfl⟩:=BG hx;exact t2 j _ (by omega) (Aa hj)) (!d.getD i false,(0:Int)) ⟨0,rfl,by omega,fun h=>⟨by simpa using h,fun j y hj=>absurd hj (by omega)⟩,fun h hr=>by
    have:=hr.1;simp only[this,BH] at h;cases h⟩
 obtain ⟨f,k,rfl,h3⟩:=h2;exact ⟨f,k,h1,h3⟩
def tell_now {c:List Cell} {d:List Bool} (h:InvD o l c d) {i:Nat} (hi:i < sizeN o) (hr:zbp o d i):P354 o l (qJ o i).1 c=some (sol o l (qJ o i).1):=by have hf:=j9 ok.cube.out i;rw[P354_eq ok h.lc h.ins hf,sol_eq ok.cube hf];congr 1;refine za1 hf fun q hq => ?_;obtain ⟨q',tI,e,h1,h2,h3⟩:=zfk ok (wZ.2 ⟨q,hq,rfl⟩);have tU:=(yU ok.cube hf hq).1;have:=h.told (wn o q) (zbt tU) (by have:=hr.2 _ (wZ.2 ⟨q,hq,rfl⟩);rwa [Aj] at this);rw[this,wy ok.pos tU]
def zkE {c0:List Cell} {d0:List Bool} (h0:InvD o l c0 d0):∃ ag i c d,lpO (zgm zlc P354 o l (wY o)) (false,(0:Int),c0,d0)=some (.inl (ag,i,c,d))∧InvD o l c d∧(ag=true->zjZ d0 < zjZ d)∧(ag=false->d=d0∧c=c0∧∀ j,j < sizeN o->¬ zbp o d0 j):=by
 have hlen:=ok.cube.out.len;obtain ⟨_,h2⟩:=ok.cube.out.sizeN;have sN:(wY o).length=sizeN o:=by simp[wY]
 obtain ⟨r,h1,hq⟩:=zav (B:=zgm zlc P354 o l (wY o)) (fun x=>∃ i:Nat,x.2.1=(i:Int)∧i<=sizeN o∧InvD o l x.2.2.1 x.2.2.2∧zjZ d0<=zjZ x.2.2.2∧(x.1=true->zjZ d0 < zjZ x.2.2.2)∧(x.1=false->x.2.2.2=d0∧x.2.2.1=c0∧∀ j,j < i->¬ zbp o d0 j)) (fun x=>sizeN o - x.2.1.toNat)
  (fun r=>∃ ag i c d,r=.inl (ag,i,c,d)∧InvD o l c d∧(ag=true->zjZ d0 < zjZ d)∧(ag=false->d=d0∧c=c0∧∀ j,j < sizeN o->¬ zbp o d0 j)) (fun x hx=>by
   obtain ⟨ag,x2,c,d⟩:=x;obtain ⟨i,hi,hle,hI,hm,ht,hf⟩:=hx;have hi:x2=(i:Int):=hi;subst hi;simp only at hI hm ht hf;simp only[zgm];rw[zh,sN];by_cases ae:i < sizeN o
   ·rw[if_pos (by omega),zp (by have:=hI.ld;omega),Aj,zdC (by have:=hI.ld;omega)];simp only[zi];obtain ⟨f,k,fI,bO⟩:=zkH ok ae (ag:=ag) (c:=c) (d:=d) hI.ld;rw[zV,fI];simp only[zX];have e4:wi ((i:Int)+1)=((i+1:Nat):Int):=by rw[qp (by omega) (by omega)];omega
    have gL:sizeN o - (((i+1:Nat):Int)).toNat < sizeN o - ((i:Int)).toNat:=by omega
    cases f with
    | true =>
     have hr:=bO.1 rfl;simp only[zo,zja o i (by omega) (by omega) (fun d hd=>⟨ok.pos d hd,by have:=ok.most d hd;omega⟩),zi,tell_now ok hI ae hr];have hci:c[i]? = some (c.getD i ⟨0,0⟩):=by rw[Ad,Aa (by have:=hI.lc;omega)];rfl
     rw[zp (by have:=hI.lc;omega),zp (by have:=hI.ld;omega),hci];simp only[zi,zq,zX,qQ,e4];have bo:d[i]? = some false:=by rw[zdC (by have:=hI.ld;omega),hr.1]
     have ao:=cnt_set d i bo;refine ⟨⟨i+1,rfl,by omega,⟨by rw[Ck];exact hI.lc,by rw[Ck];exact hI.ld,fun x hx => ?_,fun j hj sz => ?_⟩,by omega,fun _=>by omega,fun h=>by cases h⟩,gL⟩
     ·rcases CG hx with h | rfl
      ·exact hI.ins x h
      ·exact sol_in ok.val _
     ·rw[getB_set (by have:=hI.ld;omega)] at sz;rw[Ad,BD];by_cases e:i=j
      ·subst e;simp only[if_true,hI.lc,hj];rfl
      ·rw[if_neg e,← Ad];rw[if_neg (fun c=>e c.symm)] at sz;exact hI.told j hj sz
    | false =>
     simp only[zd,zq,zX,qQ,e4];refine ⟨⟨i+1,rfl,by omega,hI,hm,ht,fun h => ?_⟩,gL⟩;obtain ⟨e1,e2,e3⟩:=hf h;refine ⟨e1,e2,fun j hj => ?_⟩;by_cases e:j=i
     ·subst e;rw[← e1];exact fun hr=>by have:=bO.2 hr;cases this
     ·exact e3 j (by omega)
   ·rw[if_neg (by omega)];simp only[kq];refine ⟨ag,_,c,d,rfl,hI,ht,fun h => ?_⟩;obtain ⟨e1,e2,e3⟩:=hf h;exact ⟨e1,e2,fun j hj=>e3 j (by omega)⟩) (false,(0:Int),c0,d0) ⟨0,rfl,by omega,h0,AO _,(fun h=>by cases h),fun _=>⟨rfl,rfl,fun j hj=>absurd hj (by omega)⟩⟩
 obtain ⟨ag,i,c,d,rfl,k1,k2,k3⟩:=hq;exact ⟨ag,i,c,d,h1,k1,k2,k3⟩
def all_done {d:List Bool} (h:∀ j,j < sizeN o->¬ zbp o d j):∀ (r:Nat) (i:Nat),i < sizeN o->rkP o (qJ o i).1=r->d.getD i false=true:=by
 intro r
 induction r using Nat.strongRecOn with
 | _ r ih =>
  intro i hi hr;cases hd:d.getD i false with
  | true=>rfl
  | false =>refine absurd ⟨hd,fun x hx => ?_⟩ (h i hi);obtain ⟨q,hq,rfl,h1,h2,h3⟩:=zfk ok hx;rw[Aj];have:=(yU ok.cube (j9 ok.cube.out i) hq).2;exact ih (rkP o q) (by omega) (wn o q) h1 (by rw[h3])
def P336_eq:P336 o l=some (zf8 o l):=by
 obtain ⟨_,h2⟩:=ok.cube.out.sizeN;have sN:(wY o).length=sizeN o:=by simp[wY]
 simp only[P336,S336,zgG ok.cube,zi,sN];have aH:(0:Int)<=((sizeN o:Nat):Int)∧((sizeN o:Nat):Int)<=((sizeN o:Nat):Int)∧((sizeN o:Nat):Int)<=zu:=⟨by omega,Ca _,by unfold zu;omega⟩;simp only[zp aH,Aj]
 obtain ⟨r,h1,hq⟩:=zav (B:=ziY zlc P354 o l (wY o)) (fun x=>InvD o l x.2.1 x.2.2∧(x.1=false->∀ j,j < sizeN o->¬ zbp o x.2.2 j)) (fun x=>2 * (sizeN o - zjZ x.2.2)+(if x.1=true then 1 else 0))
  (fun r=>∃ ag d,r=.inl (ag,zf8 o l,d)) (fun x hx=>by
   obtain ⟨ag,c,d⟩:=x;obtain ⟨hI,hf⟩:=hx;simp only at hI hf;simp only[ziY];cases ag with
   | true =>
    obtain ⟨th,i,c',d',e1,e2,e3,e4⟩:=zkE ok hI;simp only[zo];rw[zV,e1];simp only[zX,qQ];have hle:=cnt_le d';have hld:=e2.ld;refine ⟨⟨e2,fun h => ?_⟩, ?_⟩
    ·obtain ⟨rfl,rfl,e5⟩:=e4 h;exact e5
    ·cases th with
     | true =>have:=e3 rfl;simp only[if_true];omega
     | false =>obtain ⟨rfl,_,_⟩:=e4 rfl;simp
   | false =>
    simp only[zd,kq];refine ⟨false,d, ?_⟩;have hall:=all_done ok (hf rfl);have:c=zf8 o l:=by
     refine B1 fun i => ?_;by_cases hi:i < sizeN o
     ·have h3:=hI.told i hi (hall _ i hi rfl);unfold zf8;rw[Ah,A4 hi,Aa (by have:=hI.lc;omega)];rw[Ad,Aa (by have:=hI.lc;omega)] at h3;exact congrArg some h3
     ·rw[AH (by have:=hI.lc;omega),AH (by rw[yO];omega)]
    rw[this]) (true,List.replicate (sizeN o) (Cell.mk 0 0),List.replicate (sizeN o) false) ⟨⟨by simp,by simp,fun x hx=>by rw[(C2.1 hx).2];rfl,fun i hi h=>by
    rw[Ad,Bv,if_pos hi] at h;cases h⟩,fun h=>by cases h⟩
 obtain ⟨ag,d,rfl⟩:=hq;rw[zV,h1];rfl
end
def P335_eq (o:List Dim) (l:List Entry) (hl:Lst Entry.gd l):P335 o l=some (wI o l):=by
 simp only[P335,S335,P324_eq,zi,zh];unfold wI;by_cases h:(zaZ o).2.2=0
 ·rw[if_pos h,if_pos h,P122_eq o l hl];rfl
 ·rw[if_neg h,if_neg h];rfl
end
section
def allN0 (d:Dim):List (List Int):=if (qB d).2=0 then jJ d else []
def P342_eq (o:List Dim):P342 o=some (if (zaZ o).2.2=0 then (o.map jJ,.nil) else ([],zB (zaZ o).2.2)):=by
 simp only[P342,S342,P51_eq,zi,zW];by_cases h0:(ja o).2.2=0
 ·obtain ok:=zbs.1 h0;have hl:=ok.len;rw[decide_eq_true h0,Bm,zd];generalize hL:o.map allN0=L;have cY:L.length=o.length:=by rw[← hL];simp
  have S:=q8 (B:=zgh P340 o) (fun i=>(L.take i,(i:Int))) o.length (fun i=>(zaN o i).map fun r=>(([]:List (List (List Int))),zB r.2.2)) (d:=(L.take o.length,(o.length:Int))) (fun i hi _=>by
   have hx:=Aa hi;have e4:wi ((i:Int)+1)=((i+1:Nat):Int):=by rw[qp (by omega) (by omega)];omega
   have cF:L[i]? = some (allN0 o[i]):=by rw[← hL,Ah,hx];rfl
   simp only[zgh];rw[zh,if_pos (by omega)];simp only[za,hx,zi,P340_eq,zW];unfold zaN;rw[hx];simp only;by_cases c:(qB o[i]).2=0
   ·have aH:(L.take i).length+[jJ o[i]].length<=zu:=by simp only[AP,AD];unfold zu;omega
    simp only[c,decide_true,Bm,zd,if_true,not_true,if_false,Bt,zp aH,qQ,e4];rw[← jV cF];unfold allN0;rw[if_pos c]
   ·simp only[c,decide_false,BH,zo,not_false_eq_true,if_true,if_false,AA]
    rfl) (fun _=>by simp only[zgh];rw[zh,if_neg (by omega)];rfl)
  rw[zV,show (([]:List (List (List Int))),(0:Int))=(L.take 0,((0:Nat):Int)) from rfl,S,zZ];have hall:zaZ o=match (List.range o.length).findSome? (zaN o) with | some r=>r | none=>(-1, -1,0):=by unfold zaZ;rw[if_neg (fun h=>h h0)];rfl
  rw[hall];cases hs:(List.range o.length).findSome? (zaN o) with
  | some r =>obtain ⟨i,hi,hr⟩:=Ax hs;have ai:=zjq hr;simp only[AA,jn_r];rw[if_neg ai]
  | none =>simp only[Bt,zX];rw[← cY,AZ,← hL];have ck:CubeOk o:=jK.1 (by rw[hall,hs]);rw[show o.map allN0=o.map jJ from An fun d hd=>by unfold allN0;rw[if_pos (ck.rules d hd)]];rfl
 ·rw[decide_eq_false h0];unfold zaZ;rw[if_pos h0,if_neg h0];rfl
section
variable {o:List Dim} (ok:CubeOk o)
include ok
def P343_eq {p:List Int} (hf:Fit o p):P343 o (o.map jJ) p=some (zhZ o p):=by
 obtain ⟨⟨h4,h0⟩,hm⟩:=zaf ok;have hlen:=hf.len;simp only[P343,S343,P353_eq hf (by omega) (fun d hd=>by have:=(hm d hd).2;omega),zi,zh];unfold zhZ;by_cases hb:byL o p < 0
 ·rw[if_pos hb,if_pos hb]
 rw[if_neg hb,if_neg hb];obtain ⟨d,i,hd,hi,_⟩:=zj3 (show 0<=byL o p by omega);obtain ⟨b,fL⟩:∃ b:Nat,byL o p=b:=⟨(byL o p).toNat,by omega⟩;rw[fL] at hd hi ⊢;simp only[Aj] at hd hi ⊢;have hr:=hf.mem _ _ _ hi hd;obtain ⟨j,rfl⟩:∃ j:Nat,i=j:=⟨i.toNat,by omega⟩;have hj:j < d.members.length:=by omega
 have dt:=Ae hd;have eX:=ok.rules d dt;have fN:=(hm d dt).2;have kL:(o.map jJ)[b]? = some (jJ d):=by rw[Ah,hd];rfl
 have gQ:b < p.length:=(Ac.1 hi).1;simp only[za,kL,hi,hd,zi,oH hj,Aj];have rU:=yn fN j;generalize hL:(qL d j).map (fun k=>((wn o (p.set b k):Nat):Int))=L;have cY:L.length=(qL d j).length:=by rw[← hL];simp
 have hs:=zH (B:=zgg P49 P70 o p (b:Int) (qL d j)) (fun i=>(L.take i,(i:Int))) (qL d j).length (fun i aA=>by
  have hx:=Aa aA;have e4:wi ((i:Int)+1)=((i+1:Nat):Int):=by rw[qp (by omega) (by omega)];omega
  obtain ⟨k,bS,bB,nE⟩:=zhC eX hj ((ww _).2 _ |>.1 (Ay aA));have cF:L[i]? = some ((wn o (p.set b (qL d j)[i]):Nat):Int):=by rw[← hL,Ah,hx];rfl
  have fp:=zch hf hd bB;simp only[zgg];rw[zh,if_pos (by omega)];simp only[za,hx,zi];rw[bS] at cF ⊢;have aH:(L.take i).length+[((wn o (p.set b (k:Int)):Nat):Int)].length<=zu:=by simp only[AP,AD];unfold zu;omega
  rw[P70_eq p b k gQ (by omega)];simp only[zi,P49_eq fp.len (by rw[fp.len];omega),zii ok.out fp,zp aH,qQ,e4,jV cF])
 rw[zV,show (([]:List Int),(0:Int))=(L.take 0,((0:Nat):Int)) from rfl,hs,zI (y:=(L.take (qL d j).length,((qL d j).length:Int))) (by simp only[zgg];rw[zh,if_neg (by omega)];rfl)];simp only[zX];rw[← cY,AZ]
end
def zla (o:List Dim):List (List Int):=(List.range (sizeN o)).map fun n=>zhZ o (qJ o n).1
def P344_eq (o:List Dim):P344 o=some (if (zaZ o).2.2=0 then (zla o,.nil) else ([],zB (zaZ o).2.2)):=by
 simp only[P344,S344,P342_eq,zi];by_cases h:(zaZ o).2.2=0
 ·have ok:=jK.1 h;obtain ⟨⟨h4,h0⟩,hm⟩:=zaf ok;obtain ⟨h1,h2⟩:=ok.out.sizeN;rw[if_pos h,if_pos h];simp only[ym,Bm,zd,zki o (by omega),h1,zi];generalize hL:zla o=L;have cY:L.length=sizeN o:=by rw[← hL];simp[zla]
  have hs:=zH (B:=zgf P343s P69 o (o.map jJ,.nil) ((sizeN o:Nat):Int)) (fun i=>(L.take i,(i:Int))) (sizeN o) (fun i hi=>by
   have e4:wi ((i:Int)+1)=((i+1:Nat):Int):=by rw[qp (by omega) (by omega)];omega
   have cF:L[i]? = some (zhZ o (qJ o i).1):=by rw[← hL];unfold zla;rw[Ah,A4 hi];rfl
   have hp:P343s o (o.map jJ) (qJ o i).1=some (zhZ o (qJ o i).1):=P343_eq ok (j9 ok.out i);simp only[zgf];rw[zh,if_pos (by omega)];have aH:(L.take i).length+[zhZ o (qJ o i).1].length<=zu:=by simp only[AP,AD];unfold zu;omega
   simp only[zkg o i (by omega) (by omega) (fun d hd=>⟨(hm d hd).1,by have:=(hm d hd).2;omega⟩),zi,hp,zp aH,qQ,e4,jV cF])
  rw[zV,show (([]:List (List Int)),(0:Int))=(L.take 0,((0:Nat):Int)) from rfl,hs,zI (y:=(L.take (sizeN o),((sizeN o:Nat):Int))) (by simp only[zgf];rw[zh,if_neg (by omega)];rfl)];simp only[zX];rw[← cY,AZ]
 ·rw[if_neg h,if_neg h];simp only[zW,decide_eq_false h,BH,zo]
end
section
section
variable {o:List Dim} (ok:CubeOk o) {n:List (List Int)} (hn:n.length=sizeN o) (hm:∀ i x,x∈n.getD i []->i < sizeN o∧∃ q,Asks o (qJ o i).1 q∧x=((wn o q:Nat):Int))
include ok hn hm
def zf4:Rng n:=fun i k hk=>by
 obtain ⟨_,q,hq,rfl⟩:=hm i k hk;have hf:=(yU ok (j9 ok.out i) hq).1;have:=zbt hf;rw[hn];omega
omit hn in
def zd6:Acyc n:=fun i hi=>by
 have step:∀ j k,k∈nd n j->rkP o (qJ o k).1 < rkP o (qJ o j).1:=(by intro j k hk;obtain ⟨x,hx,rfl⟩:=Am.1 hk;obtain ⟨_,q,hq,rfl⟩:=hm j x hx;obtain ⟨hf,ae⟩:=yU ok (j9 ok.out j) hq;rw[Aj,wy (fun d hd=>((ok.out.dims d hd).len).1) hf];exact ae);exact ⟨fun k=>rkP o (qJ o k).1 < rkP o (qJ o i).1,fun k hk=>step i k hk,fun j hj k hk=>Nat.lt_trans (step j k hk) hj,CL _⟩
end
def ziS {n m:List (List Int)} (hl:n.length=m.length) (h:∀ i k,k∈nd n i↔k∈nd m i):jf n=jf m:=by
 have hx:∀ out,zhb n out=zhb m out:=(by intro out;unfold zhb;rw[hl];congr 1;funext i;congr 1;rw[Bool.eq_iff_iff,Ai,Ai];exact ⟨fun h1 k hk=>h1 k ((h i k).2 hk),fun h1 k hk=>h1 k ((h i k).1 hk)⟩);have hb:∀ f out,je n f out=je m f out:=by
  intro f
  induction f with
  | zero=>intro out;rfl
  | succ f ih =>
   intro out;unfold je;rw[hx out];split
   ·exact ih _
   ·rfl
 unfold jf;rw[hl];exact hb _ _
section
variable {o:List Dim}
def zj6 (i:Nat) (x:Int) (h:x∈(zla o).getD i []):i < sizeN o∧∃ q,Asks o (qJ o i).1 q∧x=((wn o q:Nat):Int):=by
 unfold zla at h;rw[Ad,Ah] at h;by_cases hi:i < sizeN o
 ·rw[A4 hi] at h;exact ⟨hi,zf5.1 h⟩
 ·rw[AH (by rw[A9];omega)] at h;cases h
def zdb (i:Nat) (x:Int) (h:x∈(wY o).getD i []):i < sizeN o∧∃ q,Asks o (qJ o i).1 q∧x=((wn o q:Nat):Int):=by
 unfold wY at h;rw[Ad,Ah] at h;by_cases hi:i < sizeN o
 ·rw[A4 hi] at h;exact ⟨hi,wZ.1 h⟩
 ·rw[AH (by rw[A9];omega)] at h;cases h
def all_same (i k:Nat):k∈nd (zla o) i↔k∈nd (wY o) i:=by
 have:∀ x,x∈(zla o).getD i []↔x∈(wY o).getD i []:=by
  intro x;unfold zla wY;rw[Ad,Ad,Ah,Ah];cases (List.range (sizeN o))[i]? with
  | none=>simp
  | some j=>simp only[AA,AY,zf5,wZ]
 unfold nd;simp only[Am,this]
end
def zj5 {o:List Dim} (ok:CubeOk o) (p:List Int):(zhZ o p).length<=30:=by
 unfold zhZ;split
 ·simp
 ·split
  ·rename_i d i hd hi;rw[Ao];exact yn ((ok.out.dims d (Ae hd)).len).2 _
  ·simp
def allA_w {o:List Dim} (ok:CubeOk o) (i:Nat):((zla o).getD i []).length<=100000:=by
 unfold zla;rw[Ad,Ah];cases (List.range (sizeN o))[i]? with
 | none=>simp
 | some j=>have:=zj5 ok (qJ o j).1;simp only[AA,AY];omega
def allT_w {o:List Dim} (ok:CubeOk o) (i:Nat):((wY o).getD i []).length<=100000:=by
 unfold wY;rw[Ad,Ah];cases (List.range (sizeN o))[i]? with
 | none=>simp
 | some j =>have:=zj5 ok (qJ o j).1;have h2:=zaB (zhZ o (qJ o j).1) [];simp only[AA,AY];unfold zbj;simp only[Bq] at h2;omega
def P334_eq (o:List Dim):P334 o=some (if (zaZ o).2.2=0 then (qA (jf (wY o)),.nil) else ([],zB (zaZ o).2.2)):=by
 simp only[P334,S334,P344_eq,zi];by_cases h:(zaZ o).2.2=0
 ·have ok:=jK.1 h;obtain ⟨_,h2⟩:=ok.out.sizeN;have hA:(zla o).length=sizeN o:=by simp[zla]
  have hT:(wY o).length=sizeN o:=by simp[wY]
  rw[if_pos h,if_pos h];simp only[ym,Bm,zd];rw[P341_eq (zf4 ok hA zj6) (by omega) (allA_w ok) (zd6 ok zj6)];rw[ziS (by rw[hA,hT]) all_same];rfl
 ·rw[if_neg h,if_neg h];simp only[zW,decide_eq_false h,BH,zo]
def zdL {o:List Dim} (ok:CubeOk o):P322 (wY o)=some (qA (jf (wY o))):=by
 obtain ⟨_,h2⟩:=ok.out.sizeN;have hT:(wY o).length=sizeN o:=by simp[wY]
 exact P322_eq (zf4 ok hT zdb) (by omega) (allT_w ok) (zd6 ok zdb)
def zcq {o:List Dim} (ok:CubeOk o):(qA (jf (wY o))).length=sizeN o:=by
 have hT:(wY o).length=sizeN o:=by simp[wY]
 unfold qA;rw[Ao,(zfc (zf4 ok hT zdb) (zd6 ok zdb)).2,hT]
end
end Ab
