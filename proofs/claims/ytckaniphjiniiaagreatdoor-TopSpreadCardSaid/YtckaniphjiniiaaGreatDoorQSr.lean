/-
  Plain laws: a cube without formulas is solved to what all parts come to.
-/
import Derived.Test.YtckaniphjiniiaaGreatDoorH8
import Derived.Test.YtckaniphjiniiaaGreatDoorQWo
set_option linter.all false
namespace Ab
open Go
abbrev zfH:Nat->Bool:=fun _=>true
section
variable {o:List Dim} (ok:OutOk o)
include ok
theorem wE_parts {dim:Nat} {d:Dim} (hd:o[dim]? = some d) {p:List Int} (hf:Fit o p) {l:List Entry} (eo:EntsOk o l) {m:Nat} (hm:p[dim]? = some (m:Int)) (eu:partsOf d.members m≠[]):∀e∈l,
  wE zfH o p e=zgv (fun x=>sgn d.members x*wE zfH o (p.set dim x) e) (partsOf d.members m)∧(wE zfH o p e≠0↔∃x∈partsOf d.members m,sgn d.members x≠0∧wE zfH o (p.set dim x) e≠0):=by
 intro e he;have hr:=rooted_d ok hd;have cJ:dim<o.length:=(Ac.1 hd).1;have gf:=eo.fit e he;have hq:e.at_[dim]? = some (e.at_[dim]'(by rw[gf.len];exact cJ)):=Aa _;obtain⟨q0,q1,q2⟩:=zmq ok hd gf (eo.leaf e he) hq;generalize e.at_[dim]'(by rw[gf.len];exact cJ)=q at hq q0 q1 q2;obtain⟨R,hR⟩:=wS_set o p e.at_ dim 0 zfH d q hf.len gf.len hd hq;simp only[AY] at hR;have bt:p.set dim (m:Int)=p:=(by obtain⟨h1,h2⟩:=Ac.1 hm;rw[←h2];simp);have h1:∀k,wE zfH o (p.set dim k) e=R*wv d.members k q:=fun k=>(by unfold wE;rw[hR k zfH fun _ _=>rfl];simp[fac]);have h2:wE zfH o p e=R*wv d.members (m:Int) q:=by
  have:=h1 (m:Int)
  rwa [bt] at this
 have ah:(m:Int)≠q:=fun e=>eu (by rw[e];exact q2);obtain⟨k,rfl⟩:=Bk q0;obtain⟨w1,w2⟩:=zkJ hr k (by omega) (m:Int) (by omega) ah;rw[h2];constructor
 ·rw[w1,←zkV];refine zfK fun x hx => ?_;rw[h1 x,Int.mul_left_comm]
 ·rw[Ch,w2];constructor
  ·rintro⟨hR,x,hx,h3,h4⟩;exact⟨x,hx,h3,by rw[h1 x];exact Int.mul_ne_zero hR h4⟩
  ·rintro⟨x,hx,h3,h4⟩;rw[h1 x] at h4;exact⟨(Ch.1 h4).1,x,hx,h3,(Ch.1 h4).2⟩
theorem wE_in {p:List Int} (e:Entry) : -1<=wE zfH o p e∧wE zfH o p e<=1:=wS_in zfH _ 0 fun x hx=>by
 obtain⟨i,hi⟩:=AA.1 hx;have:=(zbI hi).2.1;exact (ok.dims _ (Ae this)).rooted
end
theorem wS_same (S T:Nat->Bool):∀(z:List ((Int×Dim)×Int)) (i:Nat),(∀x∈z,fac true x.1.2 x.1.1 x.2=fac false x.1.2 x.1.1 x.2)->wS S i z=wS T i z
 | [],_,_=>rfl
 | x::r,i,h=>by
  have h0:=h x (by simp);have:fac (S i) x.1.2 x.1.1 x.2=fac (T i) x.1.2 x.1.1 x.2:=(by cases S i<;>cases T i<;>first|rfl|exact h0|exact h0.symm)
  simp only[wS];rw[this,wS_same S T r (i+1) fun y hy=>h y (Ad _ hy)]
theorem zlI {o:List Dim} {p:List Int}:∀n,byN o p n<0->∀i,i<n->∀(d:Dim) (m:Int),o[i]? = some d->p[i]? = some m->yi d.members m.toNat=true
 | 0,_,i,hi,_,_,_,_=>by omega
 | n+1,h,i,hi,d,m,hd,hm=>by
  rw[byN] at h;split at h
  ·omega
  ·rename_i hc;by_cases e:i=n
   ·subst e;unfold byC at hc;rw[hd,hm] at hc;simp only[decide_eq_true h,Di,CJ,AU,Bool.not_eq_false] at hc;exact hc
   ·exact zlI n h i (by omega) d m hd hm
theorem ziQ {p:List Int}:∀ {l:List Entry},(∀e∈l,¬e.at_=p)->bB l p=none
 | [],_=>rfl
 | a::l,h=>by
  unfold bB;split
  ·exact ziQ fun e he=>h e (Ad _ he)
  ·rename_i h1;rw[if_neg (fun h2=>h a (by simp) (cmpL_eq h2))]
def restP (p:List Int):Nat:=(p.map fun m=>12-m.toNat).sum
theorem zif:∀(p:List Int) (i:Nat) (m x:Int),p[i]? = some m->m.toNat<x.toNat->x.toNat<=12->restP (p.set i x)<restP p
 | [],_,_,_,h,_,_=>by simp at h
 | a::p,0,m,x,h,h1,h2=>by
  simp only[B4,DM] at h;subst h;simp only[DF,restP,Aw,B6];omega
 | a::p,i+1,m,x,h,h1,h2=>by
  have:=zif p i m x (by simpa using h) h1 h2;simp only[restP,CU,Aw,B6] at this ⊢;omega
section
variable {o:List Dim} {l:List Entry} (ok:RightC o l) (hn:zfY o)
include ok hn
theorem sol_roll:∀(n:Nat) (p:List Int),Fit o p->restP p<n->sol o l p=zfF (wE zfH o p) l:=by
 have out:=ok.cube.out;intro n
 induction n with
 | zero=>intro p _ h;omega
 | succ n ih =>
  intro p hf aj;by_cases hb:byL o p<0
  ·have ml:∀(i:Nat) (d:Dim) (m:Int),o[i]? = some d->p[i]? = some m->yi d.members m.toNat=true:=fun i d m hd hm=>zlI p.length hb i (Ac.1 hm).1 d m hd hm;have gf:∀e∈l,wE zfH o p e=if p=e.at_ then 1 else 0:=fun e he=>(by have aR:=ok.ents.fit e he;unfold wE;rw[wS_same zfH (fun _=>false) _ 0 fun x hx => ?_,wS_none o p e.at_ 0 hf.len aR.len];obtain⟨i,hi⟩:=AA.1 hx;obtain⟨h1,h2,h3⟩:=zbI hi;have hB:=ml i _ _ h2 h1;have hm:=hf.mem i _ _ h1 h2;have hq:=aR.mem i _ _ h3 h2;unfold yi at hB;rw[Aa (by omega)] at hB;simp only[Ai,decide_eq_true_eq] at hB;have tx:=hB.2;rw[show ((x.1.1.toNat:Nat):Int)=x.1.1 by omega] at tx;obtain⟨k,hk⟩:=Bk hq.1;rw[hk] at hq ⊢;unfold fac;simp only[if_true,Au,if_false];exact wv_leaf (out.dims _ (Ae h2)).rooted hm.1 (by omega) tx);rw[zlE (wE zfH o p) l p ok.ents.ris ok.ents.val gf];cases pY:l.find? (fun e=>decide (e.at_=p)) with
   | some e =>
    have ba:e.at_=p:=by simpa using List.find?_some pY
    obtain⟨i,hi⟩:=AA.1 (List.mem_of_find?_eq_some pY);rw[←ba,sol_ent ok hi]
   | none =>rw[zkY ok.cube hf];unfold zbK;rw[if_pos hb,ziQ fun e he hc=>by simpa[hc] using List.find?_eq_none.1 pY e he];rfl
  ·obtain⟨d,i,hd,hi,mi⟩:=byL_is (show 0<=byL o p by omega);rw[zkY ok.cube hf];unfold zbK;rw[if_neg hb,hd,hi];simp only;have hr:=hf.mem _ _ _ hi hd;have fA:=Ae hd;have tF:=Aa (show i.toNat<d.members.length by omega);have eQ:=hn d fA _ (Ay (show i.toNat<d.members.length by omega));rw[tF];simp only[eQ,if_true];have gN:=(out.dims d fA).rooted;have eu:partsOf d.members i≠[]:=fun c=>(by unfold yi at mi;rw[tF,show ((i.toNat:Nat):Int)=i by omega] at mi;simp[eQ,c] at mi);obtain⟨m,rfl⟩:∃m:Nat,i=m:=⟨i.toNat,by omega⟩;generalize hB:(byL o p).toNat=b at hd hi ⊢;have rj:(jw o (zci o p)).1=p:=by rw[yd ok.pos hf]
   have gT:∀x∈partsOf d.members (m:Int),Fit o (p.set b x)∧sol o l (p.set b x)=zfF (wE zfH o (p.set b x)) l∧idxK o b (zci o p) x=zci o (p.set b x):=fun x hx=>(by obtain⟨x1,x2,x3⟩:=sk gN hx;obtain⟨k,rfl⟩:=Bk x2;have dF:=zeF hf hd (show k<d.members.length by omega);have r7:=ok.most d fA;have aD:=zif p b (m:Int) (k:Int) hi (by omega) (by omega);exact⟨dF,ih _ dF (by omega),by unfold idxK;rw[rj]⟩);have fT:(partsOf d.members (m:Int)).foldl (fun c k=>if sgn d.members k=0 then c else zbb c (sol o l (p.set b k)) (sgn d.members k)) ⟨0,0⟩=(partsOf d.members (m:Int)).foldl (comb1 o b d.members (allC o l) (zci o p)) ⟨bI false,0⟩:=(by refine zbu _ _ fun c x hx => ?_;obtain⟨h1,h2,h3⟩:=gT x hx;unfold comb1;have hg:=allC_at ok h1;rw[zg] at hg;rw[h3,An,hg];rfl);have rr:=zlD out hd (cs:=allC o l) (n:=zci o p) (l:=l) (fun x=>wE zfH o (p.set b x)) ok.ents.len ok.ents.val (partsOf d.members (m:Int)) false 0 (fun x hx=>by
    obtain⟨h1,h2,h3⟩:=gT x hx;have hg:=allC_at ok h1;rw[zg] at hg;refine⟨?_,fun e _=>wE_in out e,sgn_in gN x⟩;rw[h3,An,hg];exact h2) (fun _=>rfl) 0 (by
     have:=zaZ (zez d.members (m:Int)) d.members.length;have:=ok.most d fA;unfold partsOf
     omega) (by omega) (by omega)
   refine (fT.trans rr).trans ?_;have pw:=wE_parts out hd hf ok.ents hi eu;have cR:zbH (wE zfH o p) l=zgv (fun x=>sgn d.members x*zbH (wE zfH o (p.set b x)) l) (partsOf d.members (m:Int)):=(by rw[←zgw];exact zl2 fun e he=>(pw e he).1);have fi:zju (wE zfH o p) l=(partsOf d.members (m:Int)).any fun x=>decide (sgn d.members x≠0) && zju (wE zfH o (p.set b x)) l:=by
    rw[Bool.eq_iff_iff];simp only[zju,BX,decide_eq_true_eq,Ai];constructor
    ·rintro⟨e,he,h1⟩;obtain⟨x,hx,h2,h3⟩:=(pw e he).2.1 h1;exact⟨x,hx,h2,e,he,h3⟩
    ·rintro⟨x,hx,h2,e,he,h3⟩;exact⟨e,he,(pw e he).2.2 ⟨x,hx,h2,h3⟩⟩
   unfold zfF;rw[cR,fi,Int.zero_add,Bool.false_or]
theorem sD {p:List Int} (hf:Fit o p):sol o l p=⟨(zcr o l p).1,(zcr o l p).2⟩:=by rw[roll_eq ok.ents];exact sol_roll ok hn _ p hf (Nat.lt_succ_self _)
end
end Ab
