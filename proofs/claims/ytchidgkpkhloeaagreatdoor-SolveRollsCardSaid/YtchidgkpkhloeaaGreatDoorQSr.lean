/-
  Plain laws: a cube without formulas is solved to what all parts come to.
-/
import Derived.Test.YtchidgkpkhloeaaGreatDoorH8
import Derived.Test.YtchidgkpkhloeaaGreatDoorQWo
set_option linter.unusedVariables false
set_option linter.unusedSimpArgs false
namespace Ab
open Go
abbrev zdC:Nat->Bool:=fun _=>true
section
variable {o:List Dim} (ok:OutOk o)
include ok
theorem wE_parts {dim:Nat} {d:Dim} (hd:o[dim]? = some d) {p:List Int} (hf:Fit o p) {l:List Entry} (eo:EntsOk o l) {m:Nat} (hm:p[dim]? = some (m:Int)) (hps:partsOf d.members m≠[]):∀ e∈l,
  wE zdC o p e=zej (fun x=>sgn d.members x * wE zdC o (p.set dim x) e) (partsOf d.members m)∧(wE zdC o p e≠0↔∃ x∈partsOf d.members m,sgn d.members x≠0∧wE zdC o (p.set dim x) e≠0):=by
 intro e he;have hr:=rooted_d ok hd;have hdl:dim < o.length:=(List.getElem?_eq_some_iff.1 hd).1;have hfe:=eo.fit e he;have hq:e.at_[dim]? = some (e.at_[dim]'(by rw[hfe.len];exact hdl)):=List.getElem?_eq_getElem _;obtain ⟨q0,q1,q2⟩:=zi9 ok hd hfe (eo.leaf e he) hq;generalize e.at_[dim]'(by rw[hfe.len];exact hdl)=q at hq q0 q1 q2;obtain ⟨R,hR⟩:=wS_set o p e.at_ dim 0 zdC d q hf.len hfe.len hd hq;simp only[Nat.zero_add] at hR;have hset:p.set dim (m:Int)=p:=by
  obtain ⟨h1,h2⟩:=List.getElem?_eq_some_iff.1 hm;rw[← h2];simp
 have h1:∀ k,wE zdC o (p.set dim k) e=R * wv d.members k q:=fun k=>by
  unfold wE;rw[hR k zdC fun _ _=>rfl];simp[fac]
 have h2:wE zdC o p e=R * wv d.members (m:Int) q:=by
  have:=h1 (m:Int)
  rwa [hset] at this
 have hne:(m:Int)≠q:=fun e=>hps (by rw[e];exact q2);obtain ⟨k,rfl⟩:=Int.eq_ofNat_of_zero_le q0;obtain ⟨w1,w2⟩:=zhG hr k (by omega) (m:Int) (by omega) hne;rw[h2];constructor
 ·rw[w1,← zhO];refine zdF fun x hx => ?_;rw[h1 x,Int.mul_left_comm]
 ·rw[Int.mul_ne_zero_iff,w2];constructor
  ·rintro ⟨hR,x,hx,h3,h4⟩;exact ⟨x,hx,h3,by rw[h1 x];exact Int.mul_ne_zero hR h4⟩
  ·rintro ⟨x,hx,h3,h4⟩;rw[h1 x] at h4;exact ⟨(Int.mul_ne_zero_iff.1 h4).1,x,hx,h3,(Int.mul_ne_zero_iff.1 h4).2⟩
theorem wE_in {p:List Int} (e:Entry) : -1<=wE zdC o p e∧wE zdC o p e<=1:=wS_in zdC _ 0 fun x hx=>by
 obtain ⟨i,hi⟩:=List.mem_iff_getElem?.1 hx;have:=(zav hi).2.1;exact (ok.dims _ (List.mem_of_getElem? this)).rooted
end
theorem wS_same (S T:Nat->Bool):∀ (z:List ((Int×Dim)×Int)) (i:Nat),(∀ x∈z,fac true x.1.2 x.1.1 x.2=fac false x.1.2 x.1.1 x.2)->wS S i z=wS T i z
 | [],_,_=>rfl
 | x :: r,i,h=>by
  have h0:=h x (by simp);have:fac (S i) x.1.2 x.1.1 x.2=fac (T i) x.1.2 x.1.1 x.2:=by
   cases S i<;>cases T i<;>first | rfl | exact h0 | exact h0.symm
  simp only[wS];rw[this,wS_same S T r (i+1) fun y hy=>h y (List.mem_cons_of_mem _ hy)]
theorem ziu {o:List Dim} {p:List Int}:∀ n,byN o p n < 0->∀ i,i < n->∀ (d:Dim) (m:Int),o[i]? = some d->p[i]? = some m->yZ d.members m.toNat=true
 | 0,_,i,hi,_,_,_,_=>by omega
 | n+1,h,i,hi,d,m,hd,hm=>by
  rw[byN] at h;split at h
  ·omega
  ·rename_i hc;by_cases e:i=n
   ·subst e;unfold byC at hc;rw[hd,hm] at hc;simp only[decide_eq_true h,Bool.true_or,Bool.and_true,Bool.not_eq_true',Bool.not_eq_false] at hc;exact hc
   ·exact ziu n h i (by omega) d m hd hm
theorem zf4 {p:List Int}:∀ {l:List Entry},(∀ e∈l,¬ e.at_=p)->zjq l p=none
 | [],_=>rfl
 | a :: l,h=>by
  unfold zjq;split
  ·exact zf4 fun e he=>h e (List.mem_cons_of_mem _ he)
  ·rename_i h1;rw[if_neg (fun h2=>h a (by simp) (cmpL_eq h2))]
def restP (p:List Int):Nat:=(p.map fun m=>12 - m.toNat).sum
theorem zfE:∀ (p:List Int) (i:Nat) (m x:Int),p[i]? = some m->m.toNat < x.toNat->x.toNat<=12->restP (p.set i x) < restP p
 | [],_,_,_,h,_,_=>by simp at h
 | a :: p,0,m,x,h,h1,h2=>by
  simp only[List.getElem?_cons_zero,Option.some.injEq] at h;subst h;simp only[List.set_cons_zero,restP,List.map_cons,List.sum_cons];omega
 | a :: p,i+1,m,x,h,h1,h2=>by
  have:=zfE p i m x (by simpa using h) h1 h2;simp only[restP,List.set_cons_succ,List.map_cons,List.sum_cons] at this ⊢;omega
section
variable {o:List Dim} {l:List Entry} (ok:RightC o l) (hn:noForm o)
include ok hn
theorem sol_roll:∀ (n:Nat) (p:List Int),Fit o p->restP p < n->sol o l p=zdA (wE zdC o p) l:=by
 have out:=ok.cube.out;intro n
 induction n with
 | zero=>intro p _ h;omega
 | succ n ih =>
  intro p hf hlt;by_cases hb:byL o p < 0
  ·have hleaf:∀ (i:Nat) (d:Dim) (m:Int),o[i]? = some d->p[i]? = some m->yZ d.members m.toNat=true:=fun i d m hd hm=>ziu p.length hb i (List.getElem?_eq_some_iff.1 hm).1 d m hd hm;have hfe:∀ e∈l,wE zdC o p e=if p=e.at_ then 1 else 0:=fun e he=>by
    have hfit:=ok.ents.fit e he;unfold wE;rw[wS_same zdC (fun _=>false) _ 0 fun x hx => ?_,wS_none o p e.at_ 0 hf.len hfit.len];obtain ⟨i,hi⟩:=List.mem_iff_getElem?.1 hx;obtain ⟨h1,h2,h3⟩:=zav hi;have hB:=hleaf i _ _ h2 h1;have hm:=hf.mem i _ _ h1 h2;have hq:=hfit.mem i _ _ h3 h2;unfold yZ at hB;rw[List.getElem?_eq_getElem (by omega)] at hB;simp only[Bool.and_eq_true,decide_eq_true_eq] at hB;have hp0:=hB.2;rw[show ((x.1.1.toNat:Nat):Int)=x.1.1 by omega] at hp0;obtain ⟨k,hk⟩:=Int.eq_ofNat_of_zero_le hq.1;rw[hk] at hq ⊢;unfold fac;simp only[if_true,Bool.false_eq_true,if_false];exact wv_leaf (out.dims _ (List.mem_of_getElem? h2)).rooted hm.1 (by omega) hp0
   rw[ziq (wE zdC o p) l p ok.ents.ris ok.ents.val hfe];cases hfd:l.find? (fun e=>decide (e.at_=p)) with
   | some e =>
    have hat:e.at_=p:=by simpa using List.find?_some hfd
    obtain ⟨i,hi⟩:=List.mem_iff_getElem?.1 (List.mem_of_find?_eq_some hfd);rw[← hat,sol_ent ok hi]
   | none =>
    rw[zdG ok.cube hf];unfold wZ;rw[if_pos hb,zf4 fun e he hc=>by simpa[hc] using List.find?_eq_none.1 hfd e he];rfl
  ·obtain ⟨d,i,hd,hi,hlf⟩:=byL_is (show 0<=byL o p by omega);rw[zdG ok.cube hf];unfold wZ;rw[if_neg hb,hd,hi];simp only;have hr:=hf.mem _ _ _ hi hd;have hdm:=List.mem_of_getElem? hd;have hmm:=List.getElem?_eq_getElem (show i.toNat < d.members.length by omega);have hfo:=hn d hdm _ (List.getElem_mem (show i.toNat < d.members.length by omega));rw[hmm];simp only[hfo,if_true];have hroot:=(out.dims d hdm).rooted;have hps:partsOf d.members i≠[]:=fun c=>by
    unfold yZ at hlf;rw[hmm,show ((i.toNat:Nat):Int)=i by omega] at hlf;simp[hfo,c] at hlf
   obtain ⟨m,rfl⟩:∃ m:Nat,i=m:=⟨i.toNat,by omega⟩;generalize hB:(byL o p).toNat=b at hd hi ⊢;have hdig:(zbZ o (zbL o p)).1=p:=by rw[jV ok.pos hf]
   have hpart:∀ x∈partsOf d.members (m:Int),Fit o (p.set b x)∧sol o l (p.set b x)=zdA (wE zdC o (p.set b x)) l∧idxK o b (zbL o p) x=zbL o (p.set b x):=fun x hx=>by
    obtain ⟨x1,x2,x3⟩:=parts_up hroot hx;obtain ⟨k,rfl⟩:=Int.eq_ofNat_of_zero_le x2;have hfx:=zha hf hd (show k < d.members.length by omega);have h12:=ok.most d hdm;have hres:=zfE p b (m:Int) (k:Int) hi (by omega) (by omega);exact ⟨hfx,ih _ hfx (by omega),by unfold idxK;rw[hdig]⟩
   have hfold:(partsOf d.members (m:Int)).foldl (fun c k=>if sgn d.members k=0 then c else wb c (sol o l (p.set b k)) (sgn d.members k)) ⟨0,0⟩=(partsOf d.members (m:Int)).foldl (comb1 o b d.members (allC o l) (zbL o p)) ⟨bI false,0⟩:=by
    refine zap _ _ fun c x hx => ?_;obtain ⟨h1,h2,h3⟩:=hpart x hx;unfold comb1;have hg:=allC_at ok h1;rw[zf] at hg;rw[h3,List.getD_eq_getElem?_getD,hg];rfl
   have hcmb:=zin out hd (cs:=allC o l) (n:=zbL o p) (l:=l) (fun x=>wE zdC o (p.set b x)) ok.ents.len ok.ents.val (partsOf d.members (m:Int)) false 0 (fun x hx=>by
    obtain ⟨h1,h2,h3⟩:=hpart x hx;have hg:=allC_at ok h1;rw[zf] at hg;refine ⟨?_,fun e _=>wE_in out e,sgn_in hroot x⟩;rw[h3,List.getD_eq_getElem?_getD,hg];exact h2) (fun _=>rfl) 0 (by
     have:=zaK (zcC d.members (m:Int)) d.members.length;have:=ok.most d hdm;unfold partsOf
     omega) (by omega) (by omega)
   refine (hfold.trans hcmb).trans ?_;have hpt:=wE_parts out hd hf ok.ents hi hps;have hsum:zat (wE zdC o p) l=zej (fun x=>sgn d.members x * zat (wE zdC o (p.set b x)) l) (partsOf d.members (m:Int)):=by
    rw[← zek];exact ziO fun e he=>(hpt e he).1
   have hany:zgB (wE zdC o p) l=(partsOf d.members (m:Int)).any fun x=>decide (sgn d.members x≠0) && zgB (wE zdC o (p.set b x)) l:=by
    rw[Bool.eq_iff_iff];simp only[zgB,List.any_eq_true,decide_eq_true_eq,Bool.and_eq_true];constructor
    ·rintro ⟨e,he,h1⟩;obtain ⟨x,hx,h2,h3⟩:=(hpt e he).2.1 h1;exact ⟨x,hx,h2,e,he,h3⟩
    ·rintro ⟨x,hx,h2,e,he,h3⟩;exact ⟨e,he,(hpt e he).2.2 ⟨x,hx,h2,h3⟩⟩
   unfold zdA;rw[hsum,hany,Int.zero_add,Bool.false_or]
theorem sol_rollV {p:List Int} (hf:Fit o p):sol o l p=⟨(zdr o l p).1,(zdr o l p).2⟩:=by
 rw[roll_eq ok.ents];exact sol_roll ok hn _ p hf (Nat.lt_succ_self _)
end
end Ab
