import Derived.Test.YtkaifdgeigdbhaaGreatDoorF4
import Derived.Test.YtkaifdgeigdbhaaGreatDoorHN
import Derived.Test.YtkaifdgeigdbhaaGreatDoorH5
open List (foldl_cons getD_eq_getElem?_getD getElem?_eq_getElem getElem?_map mem_map mem_of_getElem?)
open Nat (sub_self)
open Int (toNat_natCast)
set_option linter.unusedVariables false
set_option linter.unusedSimpArgs false
set_option linter.unnecessarySimpa false
noncomputable section
namespace Ab
open Go
section
def byC (o:List Dim) (p:List Int) (b:Int) (i:Nat):Bool:=match o[i]?,p[i]? with
 | some d,some m => !zcs d.members m.toNat && (decide (b < 0) || decide ((o.getD b.toNat default).solve < d.solve))
 | _,_=>false
def byN (o:List Dim) (p:List Int):Nat->Int
 | 0 => -1
 | i+1=>if byC o p (byN o p i) i=true then i else byN o p i
def byL (o:List Dim) (p:List Int):Int:=byN o p p.length
theorem byN_lt (o:List Dim) (p:List Int):∀ i, -1<=byN o p i∧byN o p i < i
 | 0=>⟨by simp[byN],by simp[byN]⟩
 | i+1=>by
  have:=byN_lt o p i;rw[byN];split
  ·exact ⟨by omega,by omega⟩
  ·exact ⟨this.1,by omega⟩
theorem byN_is (o:List Dim) (p:List Int):∀ i,0<=byN o p i->∃ d m,o[(byN o p i).toNat]? = some d∧p[(byN o p i).toNat]? = some m∧zcs d.members m.toNat=false
 | 0,h=>by simp[byN] at h
 | i+1,h=>by
  rw[byN] at h ⊢;split
  ·rename_i hc;unfold byC at hc;split at hc
   ·rename_i d m hd hm;simp only[Bool.and_eq_true,Bool.not_eq_true'] at hc;exact ⟨d,m,hd,hm,hc.1⟩
   ·cases hc
  ·rename_i hc;rw[if_neg hc] at h;exact byN_is o p i h
theorem byL_is {o:List Dim} {p:List Int} (h:0<=byL o p):∃ d m,o[(byL o p).toNat]? = some d∧p[(byL o p).toNat]? = some m∧zcs d.members m.toNat=false:=byN_is o p _ h
section
variable {o:List Dim} {p:List Int} (hf:Fit o p) (hl:p.length<=1000) (hd:∀ d∈o,d.members.length<=1000)
include hf hl hd
omit hl in
theorem by_get {i:Nat} (hi:i < p.length):∃ d k,o[i]? = some d∧p[i]? = some ((k:Nat):Int)∧k < d.members.length∧d.members.length<=1000:=by
 have ho:i < o.length:=by rw[← hf.len];exact hi
 have hm:=getElem?_eq_getElem hi;have hdd:=getElem?_eq_getElem ho;have:=hf.mem i _ _ hm hdd;exact ⟨_,p[i].toNat,hdd,by rw[hm];congr 1;omega,by omega,hd _ (List.getElem_mem ho)⟩
theorem P353_eq:P353 o p=some (byL o p):=by
 simp only[P353,S353];have hs:=zJ (B:=ze3 P44 o p) (fun i=>(byN o p i,(i:Int))) p.length (fun i hi=>by
  obtain ⟨d,k,h1,h2,h3,h4⟩:=by_get hf hd hi;have e4:wi ((i:Int)+1)=((i+1:Nat):Int):=by rw[ju (by omega) (by omega)];omega
  have hb:=byN_lt o p i;simp only[ze3];rw[zu,if_pos (by omega)];simp only[zh,h1,h2,zl,P44_eq h4 h3];have hbc:byC o p (byN o p i) i=(!zcs d.members k && (decide (byN o p i < 0) || decide ((o.getD (byN o p i).toNat default).solve < d.solve))):=(by simp only[byC,h1,h2,toNat_natCast]);rw[byN,hbc];cases zcs d.members k with
  | true=>simp[e4]
  | false =>
   by_cases c:byN o p i < 0
   ·simp[c,e4]
   ·have hg:zn o (byN o p i)=some (o.getD (byN o p i).toNat default):=(by rw[zhV (by omega) (by have:=hf.len;omega),getD_eq_getElem?_getD,getElem?_eq_getElem (by have:=hf.len;omega)];rfl);simp only[hg,Bool.not_false,zo,zu,if_neg c,zl,zM,ji,e4,decide_eq_false c,Bool.false_or,Bool.true_and];by_cases c2:(o.getD (byN o p i).toNat default).solve < d.solve
    ·simp[c2]
    ·simp[c2])
 rw[qY,show ((-1:Int),(0:Int))=(byN o p 0,((0:Nat):Int)) from rfl,hs,qm (y:=(byN o p p.length,(p.length:Int))) (by simp only[ze3];rw[zu,if_neg (by omega)];rfl)];rfl
end
end
section
section
variable {l:List Node} {names:List ByteArray} {cells:List Cell}
theorem S298_eq {F:ByteArray->Solver->List Int->Int->Dim->Option Cell} {a:Solver×List Int×Int×Dim} (ok:FormOk l) (hc:∀ c∈cells,within c.n=true) (hF:∀ x∈l,x.op=2->F x.name a.1 a.2.1 a.2.2.1 a.2.2.2=some (cells.getD (nmI names x.name).toNat ⟨0,0⟩)) :
  ze8 P33 P34 P35 F P8 l a=some ((evL l names cells l.length).getD (l.length - 1) ⟨0,0⟩):=by
 have hpos:=ok.pos;have hmost:=ok.most;simp only[ze8];rw[zC ⟨by omega,Int.le_refl _,by unfold zF;omega⟩];have hs:=zJ (B:=yS P33 P34 P35 F P8 l a) (fun i=>((i:Int),evL l names cells i++List.replicate (l.length - i) (Cell.mk 0 0))) l.length (fun i hi=>by
  have hg:=getElem?_eq_getElem hi;have hE:=yO (l:=l) (names:=names) (cells:=cells) i (by omega);have hnode:=ok.node i _ hg;have hop:=zes hnode;have e4:wi ((i:Int)+1)=((i+1:Nat):Int):=by rw[ju (by omega) (by omega)];omega
  have hL:(evL l names cells i++List.replicate (l.length - i) (Cell.mk 0 0)).length=l.length:=by rw[List.length_append,hE,List.length_replicate];omega
  have hck:0<=(i:Int)∧(i:Int) < (((evL l names cells i++List.replicate (l.length - i) (Cell.mk 0 0)).length:Nat):Int):=⟨by omega,by rw[hL];omega⟩;have hat:(evL l names cells i++List.replicate (l.length - i) (Cell.mk 0 0))[i]? = some ⟨0,0⟩:=by
   have hle:(evL l names cells i).length<=i:=by omega
   rw[List.getElem?_append_right hle,hE,sub_self,List.getElem?_replicate];rw[if_pos (by omega)]
  have hset:∀ c:Cell,(evL l names cells i++List.replicate (l.length - i) (Cell.mk 0 0)).set i c=evL l names cells i++[c]++List.replicate (l.length - (i+1)) (Cell.mk 0 0):=by
   intro c;obtain ⟨m,hm⟩:∃ m,l.length - i=m+1:=⟨l.length - i - 1,by omega⟩;have hle:(evL l names cells i).length<=i:=by omega
   rw[List.set_append_right _ _ hle,hE,sub_self,hm,List.replicate_succ,List.set_cons_zero,List.append_assoc,show l.length - (i+1)=m by omega];rfl
  have get:∀ a:Int,0<=a->a < i->(0<=a∧a < (((evL l names cells i++List.replicate (l.length - i) (Cell.mk 0 0)).length:Nat):Int))∧(evL l names cells i++List.replicate (l.length - i) (Cell.mk 0 0))[a.toNat]? = some ((evL l names cells i).getD a.toNat ⟨0,0⟩):=(by intro a h0 h1;refine ⟨⟨h0,by rw[hL];omega⟩, ?_⟩;rw[List.getElem?_append_left (by omega),getD_eq_getElem?_getD,getElem?_eq_getElem (by omega)];rfl);rw[zbW hg];simp only[yS];rw[zu,if_pos (by omega)];simp only[zh,hg,zl];generalize hx:l[i]=x at hg hnode hop;have hmem:x∈l:=mem_of_getElem? hg;by_cases c1:x.op=1
  ·simp only[c1,decide_true,zo,P8_eq,zl];rw[zC hck,toNat_natCast,hat];simp only[zl,hset,zM,ji,e4,zbM,c1,if_true];rfl
  by_cases c2:x.op=2
  ·simp only[c1,c2,decide_true,decide_false,zo,zg,hF x hmem c2,zl];rw[zC hck,toNat_natCast,hat];simp only[zl,hset,zM,ji,e4,zbM,c1,c2,if_true,if_false,decide_false,zg];simp
  have d1:decide (x.op=1)=false:=decide_eq_false c1;have d2:decide (x.op=2)=false:=decide_eq_false c2;obtain ⟨a1,a2,a3,a4,_⟩:=zfI hnode (by omega);obtain ⟨g1,g2⟩:=get x.left a1 a2;obtain ⟨g3,g4⟩:=get x.right a3 a4;have w1:=evL_in (l:=l) (names:=names) hc i (by omega) x.left.toNat;by_cases c3:x.op=3
  ·simp only[d1,d2,decide_eq_true c3,zo,zg];rw[zC g1,g2];simp only[zl];rw[zC g3,g4];simp only[zl,P33_eq];rw[zC hck,toNat_natCast,hat];simp[hset,zM,ji,e4,zbM,c1,c2,c3]
  by_cases c4:x.op=4
  ·simp only[d1,d2,decide_eq_false c3,decide_eq_true c4,zo,zg];rw[zC g1,g2];simp only[zl];rw[zC g3,g4];simp only[zl,P33_eq];rw[zC hck,toNat_natCast,hat];simp[hset,zM,ji,e4,zbM,c1,c2,c3,c4]
  by_cases c5:x.op=5
  ·simp only[d1,d2,decide_eq_false c3,decide_eq_false c4,decide_eq_true c5,zo,zg];rw[zC g1,g2];simp only[zl];rw[zC g3,g4];simp only[zl,P34_eq _ w1];rw[zC hck,toNat_natCast,hat];simp[hset,zM,ji,e4,zbM,c1,c2,c3,c4,c5]
  ·simp only[d1,d2,decide_eq_false c3,decide_eq_false c4,decide_eq_false c5,zo,zg];rw[zC g1,g2];simp only[zl];rw[zC g3,g4];simp only[zl,P35_eq];rw[zC hck,toNat_natCast,hat];simp[hset,zM,ji,e4,zbM,c1,c2,c3,c4,c5])
 have e0:((0:Int),List.replicate (Int.toNat ((l.length:Nat):Int)) (Cell.mk (0:Int) (0:Int)))=(((0:Nat):Int),evL l names cells 0++List.replicate (l.length - 0) (Cell.mk 0 0)):=rfl;have e5:wi (((l.length:Nat):Int) - 1)=((l.length - 1:Nat):Int):=by rw[ju (by omega) (by omega)];omega
 rw[qY,e0,hs,qm (y:=(((l.length:Nat):Int),evL l names cells l.length++List.replicate (l.length - l.length) (Cell.mk 0 0))) (by simp only[yS];rw[zu,if_neg (by omega)];rfl)];simp only[ji,e5,sub_self,List.replicate_zero,List.append_nil];have hE:=yO (l:=l) (names:=names) (cells:=cells) l.length (Nat.le_refl _);rw[zC ⟨by omega,by rw[hE];omega⟩,toNat_natCast,getD_eq_getElem?_getD,getElem?_eq_getElem (by omega)];rfl
end
end
section
structure CubeOk (o:List Dim):Prop where
 out:OutOk o
 rules:∀ d∈o,(qD d).2=0
theorem zgn {o:List Dim}:(allE o).2.2=0↔CubeOk o:=by
 unfold allE;by_cases h0:(jN o).2.2=0
 ·rw[if_neg (fun h=>h h0)];cases hs:(List.range o.length).findSome? (zec o) with
  | some r =>
   obtain ⟨i,hi,hr⟩:=List.exists_of_findSome?_eq_some hs;refine ⟨fun h=>absurd h (ruleF_ne hr),fun h => ?_⟩;unfold zec at hr;split at hr
   ·rename_i d hd;rw[if_neg (fun c=>c (h.rules d (mem_of_getElem? hd)))] at hr;cases hr
   ·cases hr
  | none =>
   refine ⟨fun _=>⟨zdJ.1 h0,fun d hd => ?_⟩,fun _=>rfl⟩;obtain ⟨i,hi,rfl⟩:=List.getElem_of_mem hd;have:=List.findSome?_eq_none_iff.1 hs i (List.mem_range.2 hi);unfold zec at this;rw[getElem?_eq_getElem hi] at this;simp only at this;split at this
   ·cases this
   ·rename_i c;exact Classical.byContradiction c
 ·rw[if_pos h0];exact ⟨fun h=>absurd h h0,fun h=>absurd (zdJ.2 h.out) h0⟩
theorem rules_mem {d:Dim} (h:(qD d).2=0) {i:Nat} (hi:i < d.members.length):zdN d i=none:=by
 have h0:(qd d).2=0:=Classical.byContradiction fun h1=>(by rw[show qD d=qd d from if_pos h1] at h;exact h1 h);rw[show qD d=zav d from if_neg (fun h=>h h0)] at h;unfold zav at h;cases hs:(List.range d.members.length).findSome? (fun i=>(zdN d i).map fun e=>((i:Int),e)) with
 | some r =>rw[hs] at h;obtain ⟨i,_,hi⟩:=List.exists_of_findSome?_eq_some hs;obtain ⟨e,he,rfl⟩:=Option.map_eq_some_iff.1 hi;exact absurd h (zgX he)
 | none=>simpa using List.findSome?_eq_none_iff.1 hs i (List.mem_range.2 hi)
theorem zdC {d:Dim} (h:(qD d).2=0) {i:Nat} {m:Member} (hm:d.members[i]? = some m) (hf:m.formula≠⟨#[]⟩):(rdT m.formula).2.2=0:=by
 have:=rules_mem h (List.getElem?_eq_some_iff.1 hm).1;unfold zdN at this;rw[hm] at this;simp only at this;split at this
 ·cases this
 ·rename_i c;exact Classical.byContradiction fun e=>c ⟨hf,e⟩
def drk (d:Dim):Nat->Nat:=open Classical in if h:∃ r:Nat->Nat,(∀ i,i < (zbk d).length->r i < (zbk d).length)∧∀ i,i < (zbk d).length->∀ k∈nd (zbk d) i,r k < r i then h.choose else fun _=>0
theorem drk_lt {d:Dim} (h:(qD d).2=0) {i:Nat} (hi:i < d.members.length) {x:Int} (hx:x∈zgQ d i):∃ k:Nat,x=k∧k < d.members.length∧drk d k < drk d i:=by obtain ⟨hl,hr,ha⟩:=ziN h;have hex:=rank_of hr ha;have hd:∀ i,i < (zbk d).length->∀ k∈nd (zbk d) i,drk d k < drk d i:=(by unfold drk;rw[dif_pos hex];exact hex.choose_spec.2);have hn:x∈(zbk d).getD i []:=(by rw[getD_eq_getElem?_getD,zik hi];exact (zea _).2 x |>.2 hx);obtain ⟨h0,h1⟩:=hr i x hn;rw[zb0] at h1;refine ⟨x.toNat,by omega,by omega,hd i (by rw[zb0];exact hi) _ ?_⟩;exact mem_map.2 ⟨x,hn,rfl⟩
def rkP:List Dim->List Int->Nat
 | d :: o,m :: p=>drk d m.toNat+rkP o p
 | _,_=>0
theorem rkP_set:∀ (o:List Dim) (p:List Int) (i:Nat) (d:Dim) (m x:Int),o[i]? = some d->p[i]? = some m->drk d x.toNat < drk d m.toNat->rkP o (p.set i x) < rkP o p
 | [],_,_,_,_,_,h,_,_=>by simp at h
 | _ :: _,[],_,_,_,_,_,h,_=>by simp at h
 | d :: o,m :: p,0,d',m',x,h1,h2,h3=>by
  simp only[List.getElem?_cons_zero,Option.some.injEq] at h1 h2;subst h1 h2;simp only[List.set_cons_zero,rkP];omega
 | d :: o,m :: p,i+1,d',m',x,h1,h2,h3=>by
  have:=rkP_set o p i d' m' x (by simpa using h1) (by simpa using h2) h3;simp only[List.set_cons_succ,rkP];omega
theorem zeG {o:List Dim} {p:List Int} (h:Fit o p) {i:Nat} {d:Dim} {k:Nat} (hd:o[i]? = some d) (hk:k < d.members.length):Fit o (p.set i (k:Int)):=by
 refine ⟨by rw[List.length_set];exact h.len,fun j m d' hm hd' => ?_⟩;rw[List.getElem?_set] at hm;split at hm
 ·rename_i e;subst e;split at hm
  ·cases hm;rw[hd] at hd';cases hd';omega
  ·cases hm
 ·exact h.mem j m d' hm hd'
def zaa (o:List Dim) (l:List Entry) (g:List Int->Cell) (p:List Int):Cell :=
 if byL o p < 0 then zja (getL l p) else
 match o[(byL o p).toNat]?,p[(byL o p).toNat]? with
 | some d,some i=>match d.members[i.toNat]? with
  | some m=>if m.formula=⟨#[]⟩ then (partsOf d.members i).foldl (fun c k=>if sgn d.members k=0 then c else yP c (g (p.set (byL o p).toNat k)) (sgn d.members k)) ⟨0,0⟩
   else (evL (rdT m.formula).1 (refsOf (rdT m.formula).1) ((refsOf (rdT m.formula).1).map fun s=>g (p.set (byL o p).toNat (jb d.members s))) (rdT m.formula).1.length).getD ((rdT m.formula).1.length - 1) ⟨0,0⟩
  | none=>⟨0,0⟩
 | _,_=>⟨0,0⟩
def Asks (o:List Dim) (p q:List Int):Prop:=∃ d i x,0<=byL o p∧o[(byL o p).toNat]? = some d∧p[(byL o p).toNat]? = some i∧x∈zgQ d i.toNat∧q=p.set (byL o p).toNat x
theorem zcy {α β:Type} {f g:β->α->β}:∀ (l:List α) (b:β),(∀ b,∀ x∈l,f b x=g b x)->l.foldl f b=l.foldl g b
 | [],_,_=>rfl
 | x :: l,b,h=>by rw[foldl_cons,foldl_cons,h b x List.mem_cons_self];exact zcy l _ fun b y hy=>h b y (List.mem_cons_of_mem _ hy)
theorem ref_raw {d:Dim} {i:Nat} {m:Member} (hm:d.members[i]? = some m) (hf:m.formula≠⟨#[]⟩) {s:ByteArray} (hs:s∈refsOf (rdT m.formula).1):jb d.members s∈zgQ d i:=by obtain ⟨x,hx,h2,rfl⟩:=zdF.1 hs;unfold zgQ;rw[hm];simp only[if_neg hf];exact mem_map.2 ⟨x.name,mem_map.2 ⟨x,List.mem_filter.2 ⟨hx,decide_eq_true h2⟩,rfl⟩,rfl⟩
theorem zhL {d:Dim} {i:Int} (hi:0<=i) {m:Member} (hm:d.members[i.toNat]? = some m) (hf:m.formula=⟨#[]⟩) {k:Int} (hk:k∈partsOf d.members i) (hs:¬ sgn d.members k=0):k∈zgQ d i.toNat:=by unfold zgQ cntP2;rw[hm];simp only[if_pos hf];rw[show ((i.toNat:Nat):Int)=i by omega];exact List.mem_filter.2 ⟨hk,decide_eq_true hs⟩
theorem zb9 {o:List Dim} {l:List Entry} {g g':List Int->Cell} {p:List Int} (hf:Fit o p) (h:∀ q,Asks o p q->g q=g' q):zaa o l g p=zaa o l g' p:=by
 unfold zaa;split
 ·rfl
 ·rename_i hb;split
  ·rename_i d i hd hi;have hr:=hf.mem _ _ _ hi hd;split
   ·rename_i m hm;split
    ·rename_i hfm;refine zcy _ _ fun c k hk => ?_;split
     ·rfl
     ·rename_i hs;rw[h _ ⟨d,i,k,by omega,hd,hi,zhL hr.1 hm hfm hk hs,rfl⟩]
    ·rename_i hfm;congr 2;refine List.map_congr_left fun s hs => ?_;exact h _ ⟨d,i,_,by omega,hd,hi,ref_raw hm hfm hs,rfl⟩
   ·rfl
  ·rfl
def solN (o:List Dim) (l:List Entry):Nat->List Int->Cell
 | 0=>fun _=>⟨0,0⟩
 | n+1=>zaa o l (solN o l n)
def sol (o:List Dim) (l:List Entry) (p:List Int):Cell:=solN o l (rkP o p+1) p
section
variable {o:List Dim} {l:List Entry} (ok:CubeOk o)
include ok
theorem zc1 {p q:List Int} (hf:Fit o p) (h:Asks o p q):Fit o q∧rkP o q < rkP o p:=by obtain ⟨d,i,x,hb,hd,hi,hx,rfl⟩:=h;have hr:=hf.mem _ _ _ hi hd;obtain ⟨k,rfl,hk,hlt⟩:=drk_lt (ok.rules d (mem_of_getElem? hd)) (i:=i.toNat) (by omega) hx;exact ⟨zeG hf hd hk,rkP_set o p _ d i _ hd hi (by simpa using hlt)⟩
theorem solN_eq:∀ (n:Nat) (p:List Int),Fit o p->rkP o p < n->solN o l n p=sol o l p:=by
 intro n
 induction n using Nat.strongRecOn with
 | _ n ih =>
  intro p hf hlt;cases n with
  | zero=>omega
  | succ n =>
   show zaa o l (solN o l n) p=zaa o l (solN o l (rkP o p)) p;refine zb9 hf fun q hq => ?_;obtain ⟨h1,h2⟩:=zc1 ok hf hq;rw[ih n (by omega) q h1 (by omega)];by_cases e:rkP o p=n
   ·rw[e,ih n (by omega) q h1 (by omega)]
   ·rw[ih (rkP o p) (by omega) q h1 h2]
theorem sol_eq {p:List Int} (hf:Fit o p):sol o l p=zaa o l (sol o l) p:=by show zaa o l (solN o l (rkP o p)) p=_;exact zb9 hf fun q hq=>solN_eq ok _ q (zc1 ok hf hq).1 (zc1 ok hf hq).2
end
theorem cplus_in (a b:Cell) (s:Int):within (yP a b s).n=true:=by
 unfold yP
 repeat' split
 all_goals first | rfl | exact wy _
theorem tellF_in {o:List Dim} {l:List Entry} (hl:∀ e∈l,within e.n=true) {g:List Int->Cell} (hg:∀ q,within (g q).n=true) (p:List Int):within (zaa o l g p).n=true:=by
 have h0:within (0:Int)=true:=rfl;have hget:∀ (l:List Entry),(∀ e∈l,within e.n=true)->within (zja (getL l p)).n=true:=by
  intro l
  induction l with
  | nil=>intro _;exact h0
  | cons e l ih =>
   intro h;unfold getL;split
   ·exact ih fun e he=>h e (List.mem_cons_of_mem _ he)
   ·split
    ·exact h e List.mem_cons_self
    ·exact h0
 have hfold:∀ (L:List Int) (d:Dim) (c:Cell),within c.n=true->within (L.foldl (fun c k=>if sgn d.members k=0 then c else yP c (g (p.set (byL o p).toNat k)) (sgn d.members k)) c).n=true:=by
  intro L d
  induction L with
  | nil=>intro c h;exact h
  | cons k L ih =>
   intro c h;rw[foldl_cons];refine ih _ ?_;split
   ·exact h
   ·exact cplus_in _ _ _
 unfold zaa;split
 ·exact hget l hl
 ·split
  ·split
   ·split
    ·exact hfold _ _ _ h0
    ·refine evL_in (fun c hc => ?_) _ (Nat.le_refl _) _;obtain ⟨s,_,rfl⟩:=mem_map.1 hc;exact hg _
   ·exact h0
  ·exact h0
theorem solN_in {o:List Dim} {l:List Entry} (hl:∀ e∈l,within e.n=true):∀ n p,within (solN o l n p).n=true
 | 0,_=>rfl
 | n+1,p=>tellF_in hl (solN_in hl n) p
theorem sol_in {o:List Dim} {l:List Entry} (hl:∀ e∈l,within e.n=true) (p:List Int):within (sol o l p).n=true:=solN_in hl _ p
end
section
def fmM (d:Dim) (i:Nat):Option (List Node):=match d.members[i]? with
 | some m=>if m.formula=⟨#[]⟩ then none else some (rdT m.formula).1
 | none=>none
def fmL (o:List Dim):List (List (Option (List Node))):=o.map fun d=>(List.range d.members.length).map (fmM d)
def JS (o:List Dim) (l:List Entry) (kb cb kc cc:Nat):JP:={ s:=⟨o,l,fmL o,kb,cb,kc,cc,sizeN o⟩,fit:=Fit o,num:=zgU o,rk:=rkP o,U:=fun k=>sol o l (zdt o k).1 }
theorem fmL_get {o:List Dim} {i:Nat} {d:Dim} (h:o[i]? = some d):(fmL o)[i]? = some ((List.range d.members.length).map (fmM d)):=by unfold fmL;rw[getElem?_map,h];rfl
theorem nmI_get {names:List ByteArray} {s:ByteArray} {n:Nat} (h:nmI names s=n) (hn:n < names.length):names[n]=s:=by
 unfold nmI idxOf at h;split at h
 ·rename_i i hi;obtain ⟨h1,h2,_⟩:=List.findIdx?_eq_some_iff_getElem.1 hi;obtain rfl:i=n:=by omega
  exact of_decide_eq_true h2
 ·omega
structure RightC (o:List Dim) (l:List Entry):Prop where
 cube:CubeOk o
 ents:EntsOk o l
 len:Lst Entry.gd l
theorem RightC.pos {o:List Dim} {l:List Entry} (h:RightC o l):∀ d∈o,0 < d.members.length:=fun d hd=>((h.cube.out.dims d hd).len).1
theorem RightC.most {o:List Dim} {l:List Entry} (h:RightC o l):∀ d∈o,d.members.length<=12:=fun d hd=>((h.cube.out.dims d hd).len).2
theorem RightC.val {o:List Dim} {l:List Entry} (h:RightC o l):∀ e∈l,within e.n=true:=fun e he=>by
 have:=h.ents.val e he;unfold zd4 at this;simp only[Bool.and_eq_true,decide_eq_true_eq] at this;simp[within];omega
section
variable {o:List Dim} {l:List Entry} (ok:RightC o l) {kb cb kc cc:Nat}
include ok
theorem P351_JS {n:Nat} {q:List Int} (hf:Fit o q) (hr:rkP o q < n):zjk (JS o l kb cb kc cc) n (JS o l kb cb kc cc).s q=some (sol o l q):=by unfold zjk;rw[if_pos ⟨rfl,hf,hr⟩];show some (sol o l (zdt o (zgU o q)).1)=_;rw[zbQ ok.pos hf]
theorem P364_JS {n:Nat} {p:List Int} {i k:Nat} {d:Dim} {s:ByteArray} (hf:Fit o p) (hd:o[i]? = some d) (hw:jb d.members s=k) (hk:k < d.members.length) (hr:rkP o (p.set i (k:Int)) < n) :
  P364 (JS o l kb cb kc cc) n s (JS o l kb cb kc cc).s p (i:Int) d=some (sol o l (p.set i (jb d.members s))):=by
 have hl:=ok.cube.out.len;have hi:i < p.length:=by rw[hf.len];exact (List.getElem?_eq_some_iff.1 hd).1
 have hm:=ok.most d (mem_of_getElem? hd);simp only[P364,S364,P37_eq _ _ (show d.members.length<=9223372036854775807 by omega),zl,hw,ziu p i k hi (by rw[hf.len];omega),P351_JS ok (zeG hf hd hk) hr]
theorem P361_JS {p:List Int} (hf:Fit o p):P361 (JS o l kb cb kc cc) (rkP o p) (JS o l kb cb kc cc).s p=some (sol o l p):=by
 have hl:=ok.cube.out.len;have hlen:=hf.len;have h12:=ok.most;rw[sol_eq ok.cube hf];unfold zaa;simp only[P361,S361];rw[show Solver.o (JS o l kb cb kc cc).s=o from rfl,show Solver.l (JS o l kb cb kc cc).s=l from rfl,show Solver.f (JS o l kb cb kc cc).s=fmL o from rfl];rw[P353_eq hf (by omega) fun d hd=>by have:=h12 d hd;omega];simp only[zl];rw[zu];by_cases hb:byL o p < 0
 ·rw[if_pos hb,if_pos hb,P57_eq (ris_of ok.ents.rise) ok.len (by omega)];rfl
 rw[if_neg hb,if_neg hb];obtain ⟨d,i,hd,hi,_⟩:=byL_is (show 0<=byL o p by omega);obtain ⟨b,hbn⟩:∃ b:Nat,byL o p=b:=⟨(byL o p).toNat,by omega⟩;rw[hbn] at hd hi ⊢;simp only[toNat_natCast] at hd hi ⊢;have hr:=hf.mem _ _ _ hi hd;obtain ⟨j,rfl⟩:∃ j:Nat,i=j:=⟨i.toNat,by omega⟩;have hj:j < d.members.length:=by omega
 have hm:=getElem?_eq_getElem hj;have hdm:=mem_of_getElem? hd;have hru:=ok.cube.rules d hdm;have hd12:=h12 d hdm;have hfm:((List.range d.members.length).map (fmM d))[j]? = some (fmM d j):=by rw[getElem?_map,List.getElem?_range hj];rfl
 simp only[zh,hd,fmL_get hd,hi,zl,hfm,toNat_natCast,hm];have ask:∀ x,x∈zgQ d j->Asks o p (p.set b x):=fun x hx=>⟨d,j,x,by omega,by rw[hbn];exact hd,by rw[hbn];exact hi,by simpa using hx,by rw[hbn];rfl⟩;by_cases hfo:(d.members[j]).formula=⟨#[]⟩
 ·have e1:fmM d j=none:=by unfold fmM;rw[hm];simp only[if_pos hfo]
  rw[e1,if_pos hfo];simp only[Option.isSome_none,zg,zbX rfl];rw[P47_eq (show d.members.length<=1000 by omega)];simp only[zl];have hpl:(partsOf d.members j).length<=1000:=Nat.le_trans (zbT _ _) (by omega);generalize hF:(fun (c:Cell) (k:Int)=>if sgn d.members k=0 then c else yP c (sol o l (p.set b k)) (sgn d.members k))=F;have hs:=zJ (B:=ze2 P33 (zjk (JS o l kb cb kc cc) (rkP o p)) P70 (JS o l kb cb kc cc).s p (b:Int) d (partsOf d.members j)) (fun i=>((i:Int),(((partsOf d.members j).take i).foldl F ⟨0,0⟩).k,(((partsOf d.members j).take i).foldl F ⟨0,0⟩).n)) (partsOf d.members j).length (fun i hi'=>by
   have hx:=getElem?_eq_getElem hi';have hmem:=List.getElem_mem hi';generalize hc:((partsOf d.members j).take i).foldl F ⟨0,0⟩=c;rw[wu F ⟨0,0⟩ _ hx,hc];generalize (partsOf d.members j)[i]=x at hx hmem;obtain ⟨k,rfl,hk⟩:=zem hmem;have hmk:=getElem?_eq_getElem hk;have hsg:sgn d.members (k:Int)=(d.members[k]).sign:=by unfold sgn;rw[toNat_natCast,hmk]
   have e4:wi ((i:Int)+1)=((i+1:Nat):Int):=by rw[ju (by omega) (by omega)];omega
   simp only[ze2];rw[zu,if_pos (by omega)];simp only[zh,hx,hmk,zl];rw[← hF];simp only[hsg];by_cases h0:(d.members[k]).sign=0
   ·simp only[h0,not_true,decide_false,zg,zM,ji,e4,if_true];rfl
   ·have hraw:=zhL (d:=d) (i:=(j:Int)) (by omega) (by simpa using hm) hfo hmem (by rw[hsg];exact h0);obtain ⟨hq1,hq2⟩:=zc1 ok.cube hf (ask _ (by simpa using hraw));have hbp:b < p.length:=(List.getElem?_eq_some_iff.1 hi).1;simp only[h0,not_false_eq_true,decide_true,zo,ziu p b k hbp (by omega),zl,P351_JS ok hq1 hq2,P33_eq,zM,ji,e4,if_false]
    rfl)
  rw[qY,show ((0:Int),((0:Int),(0:Int)))=(((0:Nat):Int),(((partsOf d.members j).take 0).foldl F ⟨0,0⟩).k,(((partsOf d.members j).take 0).foldl F ⟨0,0⟩).n) from rfl,hs];rw[qm (y:=(((partsOf d.members j).length:Int),(((partsOf d.members j).take (partsOf d.members j).length).foldl F ⟨0,0⟩).k,(((partsOf d.members j).take (partsOf d.members j).length).foldl F ⟨0,0⟩).n)) (by simp only[ze2];rw[zu,if_neg (by omega)];rfl)];simp only[ji,List.take_length]
 ·have e1:fmM d j=some (rdT (d.members[j]).formula).1:=by unfold fmM;rw[hm];simp only[if_neg hfo]
  have hok:=rdT_ok (zdC hru hm hfo);rw[e1,if_neg hfo];have hpos:=hok.pos;have hne:(!(rdT (d.members[j]).formula).1.isEmpty)=true:=by
   cases hh:(rdT (d.members[j]).formula).1 with
   | nil=>rw[hh] at hpos;simp at hpos
   | cons=>rfl
  simp only[Option.isSome_some,zo,Option.getD_some,zbX hne];simp only[zfd]
  have key:=S298_eq (F:=P364 (JS o l kb cb kc cc) (rkP o p)) (a:=((JS o l kb cb kc cc).s,p,(b:Int),d)) (l:=(rdT (d.members[j]).formula).1) (names:=refsOf (rdT (d.members[j]).formula).1) (cells:=(refsOf (rdT (d.members[j]).formula).1).map fun s=>sol o l (p.set b (jb d.members s))) hok (fun c hc=>by
    obtain ⟨s,_,rfl⟩:=mem_map.1 hc;exact sol_in ok.val _) (fun x hx h2=>by
    have hin:x.name∈refsOf (rdT (d.members[j]).formula).1:=zdF.2 ⟨x,hx,h2,rfl⟩;have hraw:=ref_raw hm hfo hin;obtain ⟨k,hk1,hk2,hk3⟩:=drk_lt hru hj hraw;obtain ⟨hq1,hq2⟩:=zc1 ok.cube hf (ask _ hraw);rw[hk1] at hq2;rw[P364_JS ok hf hd hk1 hk2 hq2];obtain ⟨n,hn1,hn2⟩:=nmI_in hin;rw[hn1,toNat_natCast,getD_eq_getElem?_getD,getElem?_map,getElem?_eq_getElem hn2];simp only[Option.map_some,Option.getD_some];rw[nmI_get hn1 hn2])
  rw[key];rfl
theorem jok (hne:kb≠cb):JOk (JS o l kb cb kc cc):=by
 have hl:=ok.cube.out.len;refine ⟨fun p hf=>⟨?_,zfF hf⟩,fun p hf => ?_,hne⟩
 ·show P49 o p=_;rw[P49_eq hf.len (by rw[hf.len];omega),numW_eq ok.cube.out hf];rfl
 ·rw[show (JS o l kb cb kc cc).U ((JS o l kb cb kc cc).num p)=sol o l (zdt o (zgU o p)).1 from rfl,zbQ ok.pos hf];exact P361_JS ok hf
end
end
end Ab
