import Derived.Test.YtcknjppeompbkaaGreatDoorQRs
set_option linter.all false
noncomputable section
namespace Ab
open Go
section
section
variable {n:List (List Int)} (hr:Rng n) (hn:n.length<=100000) (hw:∀ i,(n.getD i []).length<=100000)
include hr hn hw
end
def zep (o:List Dim) (i:Nat):Option (Int×Int×Int):=match o[i]? with
 | some d=>if ¬ (yj d).2=0 then some ((i:Int),(yj d).1,(yj d).2) else none
 | none=>none
def allE (o:List Dim):Int×Int×Int:=if ¬ (jD o).2.2=0 then jD o else match (List.range o.length).findSome? (zep o) with
 | some r=>r
 | none=>(-1, -1,0)
def ruleF_ne {o:List Dim} {i:Nat} {r:Int×Int×Int} (h:zep o i=some r):¬ r.2.2=0:=by
 unfold zep at h;split at h
 ·split at h
  ·rename_i c;cases h;exact c
  ·cases h
 ·cases h
def P320_eq (o:List Dim):P320 o=some ((allE o).1,(allE o).2.1,zp (allE o).2.2):=by
 simp only[P320,S320,P14_eq,zq,zT];unfold allE;by_cases h0:(jD o).2.2=0
 ·obtain ok:=zcu.1 h0;have hl:=ok.len;rw[decide_eq_true h0,Bf,zi,if_neg (fun h=>h h0)];have L:=w6 (B:=zfg P315 o) o.length (fun i=>(zep o i).map fun r=>(r.1,r.2.1,zp r.2.2)) (fun i hi=>by
   have hx:=Ac hi;simp only[zfg];rw[zO,if_pos (by omega)];simp only[zn,hx,zq,P315_eq,zT];unfold zep;rw[hx,ww (by omega) (by omega)];simp only;by_cases c:(yj o[i]).2=0
   ·rw[decide_eq_true c,if_neg (fun h=>h c)];rfl
   ·rw[decide_eq_false c,if_pos c]
    rfl) (by
   simp only[zfg];rw[zO,if_neg (by omega)]
   rfl)
  rw[wc,L,qt];cases (List.range o.length).findSome? (zep o)<;>rfl
 ·rw[decide_eq_false h0,BV,zw,if_pos h0]
def P352_eq (o:List Dim):P352 o=some (zp (allE o).2.2):=by simp only[P352,S352,P320_eq,zq]
end
section
def cmpL:List Int->List Int->Int
 | [],[]=>0
 | [],_ :: _ => -1
 | _ :: _,[]=>1
 | x :: a,y :: b=>if x < y then -1 else if y < x then 1 else cmpL a b
def P81_eq (a b:Int):P81 a b=some (if a < b then -1 else if b < a then 1 else 0):=by
 have e:∀ n:Int,P84 n=some false:=fun n=>by simp[P84,S84]
 simp only[P81,S81,e,zq,zi];by_cases h1:a < b
 ·simp[h1]
 ·by_cases h2:b < a<;>simp[h1,h2]
def cmp_loop (a b:List Int) (h:a.length<=9223372036854775807):∀ (n i:Nat),a.length - i=n->i<=a.length->i<=b.length->jn (lpO (zee P81 a b) (i:Int)) (fun _=>br (decide (((List.length a:Nat):Int) < ((List.length b:Nat):Int))) (some (-1:Int)) (some (0:Int)))=some (cmpL (a.drop i) (b.drop i)):=by
 intro n
 induction n with
 | zero =>
  intro i hi hl hb;obtain rfl:i=a.length:=by omega
  rw[jt (y:=(a.length:Int)) (by simp[zee])];rw[List.drop_length];simp only[yR];by_cases aq:a.length < b.length
  ·have e:((a.length:Nat):Int) < ((b.length:Nat):Int):=by omega
   rw[BD aq];simp[e,cmpL]
  ·have e:¬ ((a.length:Nat):Int) < ((b.length:Nat):Int):=by omega
   rw[BM (by omega)];simp[e,cmpL]
 | succ n ih =>
  intro i hi hl hb;have mC:i < a.length:=by omega
  have e:((i:Nat):Int) < ((a.length:Nat):Int):=by omega
  rw[BD mC];by_cases ig:i < b.length
  ·have e2:¬ ((b.length:Nat):Int)<=((i:Nat):Int):=by omega
   rw[BD ig];simp only[cmpL];have hB:zee P81 a b (i:Int)=some (if a[i] < b[i] then .fin (-1) else if b[i] < a[i] then .fin 1 else .nx ((i:Int)+1)):=by
    simp only[zee,e,e2,decide_true,decide_false,zw,zi,zn,Ac mC,Ac ig,zq,P81_eq];rw[ww (by omega) (by omega)];by_cases c1:a[i] < b[i]
    ·simp[c1]
    ·by_cases c2:b[i] < a[i]<;>simp[c1,c2]
   by_cases c1:a[i] < b[i]
   ·rw[if_pos c1] at hB ⊢;rw[wK hB];rfl
   ·rw[if_neg c1] at hB ⊢;by_cases c2:b[i] < a[i]
    ·rw[if_pos c2] at hB ⊢;rw[wK hB];rfl
    ·rw[if_neg c2] at hB ⊢;rw[zcJ hB];exact ih (i+1) (by omega) (by omega) (by omega)
  ·have e2:((b.length:Nat):Int)<=((i:Nat):Int):=by omega
   rw[BM (by omega:b.length<=i),wK (a:=(1:Int)) (by simp[zee,e,e2,zn,mC])];rfl
def P74_eq (a b:List Int) (h:a.length<=9223372036854775807):P74 a b=some (cmpL a b):=by simp only[P74,S74,wc];exact cmp_loop a b h a.length 0 (by omega) (BG _) (BG _)
def ziz (a b:Entry) (h:a.at_.length<=9223372036854775807):P61 a b=some (cmpL a.at_ b.at_):=by simp[P61,S61,P74_eq _ _ h]
def zba (n:Int):Bool:=decide (-1000000<=n) && decide (n<=1000000)
def P60_eq (n:Int):P60 n=some (zba n):=by simp[P60,S60,zba]
def zbW (o:List Dim) (l:List Entry) (i:Nat) (e:Entry):Int :=
 if ¬ zaw o e.at_=0 then zaw o e.at_ else if eg o e.at_=false then 6 else if zba e.n=false then 1
 else match i with | 0=>0 | j+1=>match l[j]? with | some e0=>if 0<=cmpL e0.at_ e.at_ then 7 else 0 | none=>0
def zhj (o:List Dim) (l:List Entry):Int :=
 if ¬ (jD o).2.2=0 then (jD o).2.2 else match (List.range l.length).findSome? fun i=>match l[i]? with | some e=>if zbW o l i e=0 then none else some (zbW o l i e) | none=>none with
 | some e=>e
 | none=>0
def P27_eq (o:List Dim) (l:List Entry) (hl:Lst Entry.gd l):P27 o l=some (zp (zhj o l)):=by
 simp only[P27,S27,P51_eq,zq,zT];unfold zhj;by_cases h0:(jD o).2.2=0
 case neg=>simp[h0]
 have ok:=zcu.1 h0;have pa:∀ d∈o,d.members.length<=1000:=fun d hd=>by have:=(ok.dims d hd).len;omega
 have hlen:=hl.1;rw[if_neg (by simpa using h0)];simp only[h0,decide_true,Bf,zi];have:=w6 (B:=ziv P58 P59 P60 P61 o l) l.length (fun i=>match l[i]? with
  | some e=>if zbW o l i e=0 then none else some (zp (zbW o l i e))
  | none=>none) (fun i hi=>by
   have e:((i:Nat):Int) < ((l.length:Nat):Int):=by omega
   have hm:=Ac hi;have hg:=hl.2 _ (Be hi);generalize l[i]=x at hm hg;have bz:x.at_.length<=9223372036854775807:=hg.1.1;simp only[ziv,e,decide_true,zw,zn,hm,zq,P58_eq o _ bz,zT];rw[ww (n:=(i:Int)+1) (by omega) (by omega)];by_cases c1:zaw o x.at_=0
   case neg =>
    have hE:zbW o l i x=zaw o x.at_:=by unfold zbW;rw[if_pos c1]
    simp[hE,c1]
   have hf:=zcQ.1 c1;have ln:¬ ¬ zaw o x.at_=0:=fun h=>h c1;simp only[c1,decide_true,Bf,zi,P59_eq hf bz pa,zq,P60_eq];cases c2:eg o x.at_ with
   | false =>
    have hE:zbW o l i x=6:=by unfold zbW;rw[if_neg ln,if_pos c2]
    simp[hE,zp]
   | true =>
    have kz:¬ eg o x.at_=false:=by rw[c2];simp
    cases c3:zba x.n with
    | false =>
     have hE:zbW o l i x=1:=by unfold zbW;rw[if_neg ln,if_neg kz,if_pos c3]
     simp[hE,zp]
    | true =>
     have pw:¬ zba x.n=false:=by rw[c3];simp
     simp only[Bf,zi];cases i with
     | zero =>
      have hE:zbW o l 0 x=0:=by unfold zbW;rw[if_neg ln,if_neg kz,if_neg pw]
      simp[hE]
     | succ j =>
      have hj:j < l.length:=by omega
      have ej:=Ac hj;have hgj:=hl.2 _ (Be hj);have hE:zbW o l (j+1) x=if 0<=cmpL l[j].at_ x.at_ then 7 else 0:=by unfold zbW;rw[if_neg ln,if_neg kz,if_neg pw];simp only[ej]
      have e0:(0:Int) < ((j+1:Nat):Int):=by omega
      have e1:((j+1:Nat):Int) - 1=(j:Int):=by omega
      simp only[e0,decide_true,zw,e1];rw[ww (n:=(j:Int)) (by omega) (by omega)];simp only[zn,ej,zq,ziz _ _ hgj.1.1,hE];by_cases c4:0<=cmpL l[j].at_ x.at_<;>simp[c4,zp]) (by simp[ziv])
 unfold lp;rw[this];have e2:((List.range l.length).findSome? fun i=>match l[i]? with
  | some e=>if zbW o l i e=0 then none else some (zp (zbW o l i e))
  | none=>none)=((List.range l.length).findSome? fun i=>match l[i]? with | some e=>if zbW o l i e=0 then none else some (zbW o l i e) | none=>none).map zp:=by
  rw[← qt];congr 1;funext i;cases l[i]? with
  | none=>rfl
  | some m=>by_cases h:zbW o l i m=0<;>simp[h]
 rw[e2];cases ((List.range l.length).findSome? fun i=>match l[i]? with | some e=>if zbW o l i e=0 then none else some (zbW o l i e) | none=>none) with
 | none=>simp[zp]
 | some r=>rfl
structure EntsOk (o:List Dim) (l:List Entry):Prop where
 out:OutOk o
 fit:∀ e∈l,Fit o e.at_
 leaf:∀ e∈l,eg o e.at_=true
 val:∀ e∈l,zba e.n=true
 rise:∀ (i:Nat) (a b:Entry),l[i]? = some a->l[i+1]? = some b->cmpL a.at_ b.at_ < 0
def ents_ok {o:List Dim} {l:List Entry}:zhj o l=0↔EntsOk o l:=by
 unfold zhj;by_cases h0:(jD o).2.2=0
 case neg=>rw[if_pos h0];exact ⟨fun e=>absurd e h0,fun e=>absurd (zcu.2 e.out) h0⟩
 rw[if_neg (by simpa using h0)];cases hm:(List.range l.length).findSome? fun i=>match l[i]? with | some e=>if zbW o l i e=0 then none else some (zbW o l i e) | none=>none with
 | some r =>
  obtain ⟨i,hi,hr⟩:=AW hm;have hi:i < l.length:=by simpa using hi
  rw[Ac hi] at hr;simp only at hr;split at hr
  ·cases hr
  ·rename_i ah;cases hr;refine ⟨fun h=>absurd h ah,fun h=>absurd ?_ ah⟩;have bj:=Be hi;unfold zbW;rw[if_neg (by simpa using zcQ.2 (h.fit _ bj)),if_neg (by simp[h.leaf _ bj]),if_neg (by simp[h.val _ bj])];cases i with
   | zero=>rfl
   | succ j =>simp only;rw[Ac (by omega:j < l.length)];have:=h.rise j _ _ (Ac (by omega:j < l.length)) (Ac hi);simp only;rw[if_neg (by omega)]
 | none =>
  have hn:=Bp.1 hm;have each:∀ (i:Nat) (e:Entry),l[i]? = some e->zbW o l i e=0:=by
   intro i e hi;have aQ:=(Aa.1 hi).1;have:=hn i (by simpa using aQ);rw[hi] at this;simp only at this;split at this
   ·assumption
   ·cases this
  have parts:∀ (i:Nat) (e:Entry),l[i]? = some e->zaw o e.at_=0∧eg o e.at_=true∧zba e.n=true∧∀ j e0,i=j+1->l[j]? = some e0->cmpL e0.at_ e.at_ < 0:=by
   intro i e hi;have:=each i e hi;unfold zbW at this;by_cases c1:zaw o e.at_=0
   case neg=>rw[if_pos c1] at this;exact absurd this c1
   rw[if_neg (by simpa using c1)] at this;by_cases c2:eg o e.at_=false
   ·rw[if_pos c2] at this;cases this
   rw[if_neg c2] at this;by_cases c3:zba e.n=false
   ·rw[if_pos c3] at this;cases this
   rw[if_neg c3] at this;refine ⟨c1,by simpa using c2,by simpa using c3,fun j e0 hj hj0 => ?_⟩;subst hj;simp only[hj0] at this;split at this
   ·cases this
   ·omega
  refine ⟨fun _=>⟨zcu.1 h0,fun e he => ?_,fun e he => ?_,fun e he => ?_,fun i a b ha hb=>(parts _ _ hb).2.2.2 i a rfl ha⟩,fun _=>rfl⟩
  ·obtain ⟨i,hi⟩:=Ay.1 he;exact zcQ.1 (parts i e hi).1
  ·obtain ⟨i,hi⟩:=Ay.1 he;exact (parts i e hi).2.1
  ·obtain ⟨i,hi⟩:=Ay.1 he;exact (parts i e hi).2.2.1
end
section
def parts_up {l:List Member} (h:Rooted l) {i x:Int} (hx:x∈partsOf l i):i < x∧0<=x∧x < l.length:=by obtain ⟨k,rfl,h1,h2⟩:=nY.1 hx;unfold kC at h2;rw[Ac h1] at h2;simp only[decide_eq_true_eq] at h2;have:=h.up k _ (Ac h1);omega
section
variable (o:List Dim) (dim:Nat) (ms:List Member)
end
section
variable {o:List Dim} {dim:Nat} {d:Dim}
variable (ok:OutOk o) (hd:o[dim]? = some d)
include ok hd
end
section
variable {o:List Dim} {dim:Nat} {ms:List Member}
end
end
end Ab
