import Derived.Test.YtchidgkpkhloeaaGreatDoorF4
import Derived.Test.YtchidgkpkhloeaaGreatDoorHN
import Derived.Test.YtchidgkpkhloeaaGreatDoorH5
set_option linter.unusedVariables false
set_option linter.unusedSimpArgs false
set_option linter.unnecessarySimpa false
noncomputable section
namespace Ab
open Go
section
def byC (o:List Dim) (p:List Int) (b:Int) (i:Nat):Bool:=match o[i]?,p[i]? with
 | some d,some m => !zb5 d.members m.toNat && (decide (b < 0) || decide ((o.getD b.toNat default).solve < d.solve))
 | _,_=>false
def byN (o:List Dim) (p:List Int):Nat->Int
 | 0 => -1
 | i+1=>if byC o p (byN o p i) i=true then i else byN o p i
def byL (o:List Dim) (p:List Int):Int:=byN o p p.length
theorem byN_lt (o:List Dim) (p:List Int):∀ i, -1<=byN o p i∧byN o p i < i
 | 0=>⟨by simp[byN],by simp[byN]⟩
 | i+1=>by
  have:=byN_lt o p i;rw[byN];split
  ·exact ⟨by omega,by omega⟩
  ·exact ⟨this.1,by omega⟩
theorem byN_is (o:List Dim) (p:List Int):∀ i,0<=byN o p i->∃ d m,o[(byN o p i).toNat]? = some d∧p[(byN o p i).toNat]? = some m∧zb5 d.members m.toNat=false
 | 0,h=>by simp[byN] at h
 | i+1,h=>by
  rw[byN] at h ⊢;split
  ·rename_i hc;unfold byC at hc;split at hc
   ·rename_i d m hd hm;simp only[Bool.and_eq_true,Bool.not_eq_true'] at hc;exact ⟨d,m,hd,hm,hc.1⟩
   ·cases hc
  ·rename_i hc;rw[if_neg hc] at h;exact byN_is o p i h
theorem byL_is {o:List Dim} {p:List Int} (h:0<=byL o p):∃ d m,o[(byL o p).toNat]? = some d∧p[(byL o p).toNat]? = some m∧zb5 d.members m.toNat=false:=byN_is o p _ h
section
variable {o:List Dim} {p:List Int} (hf:Fit o p) (hl:p.length<=1000) (hd:∀ d∈o,d.members.length<=1000)
include hf hl hd
omit hl in
theorem by_get {i:Nat} (hi:i < p.length):∃ d k,o[i]? = some d∧p[i]? = some ((k:Nat):Int)∧k < d.members.length∧d.members.length<=1000:=by
 have ho:i < o.length:=by rw[← hf.len];exact hi
 have hm:=List.getElem?_eq_getElem hi;have hdd:=List.getElem?_eq_getElem ho;have:=hf.mem i _ _ hm hdd;exact ⟨_,p[i].toNat,hdd,by rw[hm];congr 1;omega,by omega,hd _ (List.getElem_mem ho)⟩
theorem P353_eq:P353 o p=some (byL o p):=by
 simp only[P353,S353];have hs:=qu (B:=zeq P44 o p) (fun i=>(byN o p i,(i:Int))) p.length (fun i hi=>by
  obtain ⟨d,k,h1,h2,h3,h4⟩:=by_get hf hd hi;have e4:wi ((i:Int)+1)=((i+1:Nat):Int):=by rw[j9 (by omega) (by omega)];omega
  have hb:=byN_lt o p i;simp only[zeq];rw[zA,if_pos (by omega)];simp only[zi,h1,h2,zB,P44_eq h4 h3];have hbc:byC o p (byN o p i) i=(!zb5 d.members k && (decide (byN o p i < 0) || decide ((o.getD (byN o p i).toNat default).solve < d.solve))):=(by simp only[byC,h1,h2,Int.toNat_natCast]);rw[byN,hbc];cases zb5 d.members k with
  | true=>simp[e4]
  | false =>
   by_cases c:byN o p i < 0
   ·simp[c,e4]
   ·have hg:zq o (byN o p i)=some (o.getD (byN o p i).toNat default):=(by rw[zhd (by omega) (by have:=hf.len;omega),List.getD_eq_getElem?_getD,List.getElem?_eq_getElem (by have:=hf.len;omega)];rfl);simp only[hg,Bool.not_false,zt,zA,if_neg c,zB,qj,yO,e4,decide_eq_false c,Bool.false_or,Bool.true_and];by_cases c2:(o.getD (byN o p i).toNat default).solve < d.solve
    ·simp[c2]
    ·simp[c2])
 rw[yF,show ((-1:Int),(0:Int))=(byN o p 0,((0:Nat):Int)) from rfl,hs,q8 (y:=(byN o p p.length,(p.length:Int))) (by simp only[zeq];rw[zA,if_neg (by omega)];rfl)];rfl
end
end
section
section
variable {l:List Node} {names:List ByteArray} {cells:List Cell}
end
end
section
structure CubeOk (o:List Dim):Prop where
 out:OutOk o
 rules:∀ d∈o,(qZ d).2=0
theorem yr {o:List Dim}:(zcU o).2.2=0↔CubeOk o:=by
 unfold zcU;by_cases h0:(yK o).2.2=0
 ·rw[if_neg (fun h=>h h0)];cases hs:(List.range o.length).findSome? (zcJ o) with
  | some r =>
   obtain ⟨i,hi,hr⟩:=List.exists_of_findSome?_eq_some hs;refine ⟨fun h=>absurd h (zgW hr),fun h => ?_⟩;unfold zcJ at hr;split at hr
   ·rename_i d hd;rw[if_neg (fun c=>c (h.rules d (List.mem_of_getElem? hd)))] at hr;cases hr
   ·cases hr
  | none =>
   refine ⟨fun _=>⟨zg3.1 h0,fun d hd => ?_⟩,fun _=>rfl⟩;obtain ⟨i,hi,rfl⟩:=List.getElem_of_mem hd;have:=List.findSome?_eq_none_iff.1 hs i (List.mem_range.2 hi);unfold zcJ at this;rw[List.getElem?_eq_getElem hi] at this;simp only at this;split at this
   ·cases this
   ·rename_i c;exact Classical.byContradiction c
 ·rw[if_pos h0];exact ⟨fun h=>absurd h h0,fun h=>absurd (zg3.2 h.out) h0⟩
def drk (d:Dim):Nat->Nat:=open Classical in if h:∃ r:Nat->Nat,(∀ i,i < (yt d).length->r i < (yt d).length)∧∀ i,i < (yt d).length->∀ k∈nd (yt d) i,r k < r i then h.choose else fun _=>0
theorem drk_lt {d:Dim} (h:(qZ d).2=0) {i:Nat} (hi:i < d.members.length) {x:Int} (hx:x∈zir d i):∃ k:Nat,x=k∧k < d.members.length∧drk d k < drk d i:=by obtain ⟨hl,hr,ha⟩:=zhY h;have hex:=rank_of hr ha;have hd:∀ i,i < (yt d).length->∀ k∈nd (yt d) i,drk d k < drk d i:=(by unfold drk;rw[dif_pos hex];exact hex.choose_spec.2);have hn:x∈(yt d).getD i []:=(by rw[List.getD_eq_getElem?_getD,zep hi];exact (yX _).2 x |>.2 hx);obtain ⟨h0,h1⟩:=hr i x hn;rw[zbF] at h1;refine ⟨x.toNat,by omega,by omega,hd i (by rw[zbF];exact hi) _ ?_⟩;exact List.mem_map.2 ⟨x,hn,rfl⟩
def rkP:List Dim->List Int->Nat
 | d :: o,m :: p=>drk d m.toNat+rkP o p
 | _,_=>0
theorem rkP_set:∀ (o:List Dim) (p:List Int) (i:Nat) (d:Dim) (m x:Int),o[i]? = some d->p[i]? = some m->drk d x.toNat < drk d m.toNat->rkP o (p.set i x) < rkP o p
 | [],_,_,_,_,_,h,_,_=>by simp at h
 | _ :: _,[],_,_,_,_,_,h,_=>by simp at h
 | d :: o,m :: p,0,d',m',x,h1,h2,h3=>by
  simp only[List.getElem?_cons_zero,Option.some.injEq] at h1 h2;subst h1 h2;simp only[List.set_cons_zero,rkP];omega
 | d :: o,m :: p,i+1,d',m',x,h1,h2,h3=>by
  have:=rkP_set o p i d' m' x (by simpa using h1) (by simpa using h2) h3;simp only[List.set_cons_succ,rkP];omega
theorem fit_set {o:List Dim} {p:List Int} (h:Fit o p) {i:Nat} {d:Dim} {k:Nat} (hd:o[i]? = some d) (hk:k < d.members.length):Fit o (p.set i (k:Int)):=by
 refine ⟨by rw[List.length_set];exact h.len,fun j m d' hm hd' => ?_⟩;rw[List.getElem?_set] at hm;split at hm
 ·rename_i e;subst e;split at hm
  ·cases hm;rw[hd] at hd';cases hd';omega
  ·cases hm
 ·exact h.mem j m d' hm hd'
def tellF (o:List Dim) (l:List Entry) (g:List Int->Cell) (p:List Int):Cell :=
 if byL o p < 0 then cellL (getL l p) else
 match o[(byL o p).toNat]?,p[(byL o p).toNat]? with
 | some d,some i=>match d.members[i.toNat]? with
  | some m=>if m.formula=⟨#[]⟩ then (partsOf d.members i).foldl (fun c k=>if sgn d.members k=0 then c else zgy c (g (p.set (byL o p).toNat k)) (sgn d.members k)) ⟨0,0⟩
   else (evL (rdT m.formula).1 (refsOf (rdT m.formula).1) ((refsOf (rdT m.formula).1).map fun s=>g (p.set (byL o p).toNat (yc d.members s))) (rdT m.formula).1.length).getD ((rdT m.formula).1.length - 1) ⟨0,0⟩
  | none=>⟨0,0⟩
 | _,_=>⟨0,0⟩
def Asks (o:List Dim) (p q:List Int):Prop:=∃ d i x,0<=byL o p∧o[(byL o p).toNat]? = some d∧p[(byL o p).toNat]? = some i∧x∈zir d i.toNat∧q=p.set (byL o p).toNat x
def solN (o:List Dim) (l:List Entry):Nat->List Int->Cell
 | 0=>fun _=>⟨0,0⟩
 | n+1=>tellF o l (solN o l n)
def sol (o:List Dim) (l:List Entry) (p:List Int):Cell:=solN o l (rkP o p+1) p
section
variable {o:List Dim} {l:List Entry} (ok:CubeOk o)
include ok
theorem asks_lt {p q:List Int} (hf:Fit o p) (h:Asks o p q):Fit o q∧rkP o q < rkP o p:=by obtain ⟨d,i,x,hb,hd,hi,hx,rfl⟩:=h;have hr:=hf.mem _ _ _ hi hd;obtain ⟨k,rfl,hk,hlt⟩:=drk_lt (ok.rules d (List.mem_of_getElem? hd)) (i:=i.toNat) (by omega) hx;exact ⟨fit_set hf hd hk,rkP_set o p _ d i _ hd hi (by simpa using hlt)⟩
end
end
section
structure RightC (o:List Dim) (l:List Entry):Prop where
 cube:CubeOk o
 ents:EntsOk o l
 len:Lst Entry.gd l
section
variable {o:List Dim} {l:List Entry} (ok:RightC o l) {kb cb kc cc:Nat}
include ok
end
end
end Ab
