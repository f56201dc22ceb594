import Derived.Test.YtkaifdgeigdbhaaGreatDoorF4
import Derived.Test.YtkaifdgeigdbhaaGreatDoorHN
set_option linter.all false
namespace Ab
open Go
section
def zeZ (i:Nat):ByteArray:=⟨#[UInt8.ofNat (97+i / 26 % 26),UInt8.ofNat (97+i % 26)]⟩
def zgp:∀ i:Nat,i < 101->(match P68 (i:Int) with | some b=>decide (b=zeZ i) | none=>false)=true:=by decide+kernel
def P68_eq (i:Nat) (h:i < 101):P68 (i:Int)=some (zeZ i):=by
 have:=zgp i h;split at this
 ·rename_i b hb;rw[hb];simpa using this
 ·cases this
def flatM (i:Nat):Member:=⟨zeZ i,0,1,⟨#[]⟩⟩
def dH (name:ByteArray) (n:Nat):Dim:=⟨name,0,⟨⟨#[97,108,108]⟩, -1,0,⟨#[]⟩⟩ :: (List.range n).map flatM⟩
def P50_eq (name:ByteArray) (n:Nat) (h:n<=100):P50 name (n:Int)=some (dH name n):=by
 have hs:=qr (B:=gK P68 (n:Int)) (fun i=>((i:Int),(name,(0:Int),(dH name i).members))) n (fun i hi=>by
  have e:((i:Nat):Int) < ((n:Nat):Int):=by omega
  have hr:(dH name i).members.length+1<=zjl:=by simp[dH];unfold zjl;omega
  have em:(dH name (i+1)).members=(dH name i).members++[flatM i]:=(by simp[dH,BW]);simp only[gK,e,decide_true,zh,P68_eq i (by omega),zk,BA,zy hr,yN,em];rw[zN (by omega) (by omega)]
  rfl)
 have hs:lpO (gK P68 (n:Int)) (0,(name,0,[⟨⟨#[97,108,108]⟩, -1,0,⟨#[]⟩⟩]))=some (.inl ((n:Int),(name,0,(dH name n).members))):=hs.trans (zB (by simp[gK]));simp only[P50,S50,qe,hs,z8];rfl
end
section
structure CubeOk (o:List Dim):Prop where
 out:OutOk o
 rules:∀ d∈o,(yi d).2=0
def allE_zero {o:List Dim}:(allE o).2.2=0↔CubeOk o:=by
 unfold allE;by_cases h0:(qS o).2.2=0
 ·rw[if_neg (fun h=>h h0)];cases hs:(List.range o.length).findSome? (zeD o) with
  | some r =>
   obtain ⟨i,hi,hr⟩:=AW hs;refine ⟨fun h=>absurd h (ruleF_ne hr),fun h => ?_⟩;unfold zeD at hr;split at hr
   ·rename_i d hd;rw[if_neg (fun c=>c (h.rules d (Ad hd)))] at hr;cases hr
   ·cases hr
  | none =>
   refine ⟨fun _=>⟨wD.1 h0,fun d hd => ?_⟩,fun _=>rfl⟩;obtain ⟨i,hi,rfl⟩:=Bw hd;have:=A9.1 hs i (AR.2 hi);unfold zeD at this;rw[Aa hi] at this;simp only at this;split at this
   ·cases this
   ·rename_i c;exact Cz c
 ·rw[if_pos h0];exact ⟨fun h=>absurd h h0,fun h=>absurd (wD.2 h.out) h0⟩
def noForm (o:List Dim):Prop:=∀ d∈o,∀ m∈d.members,m.formula=⟨#[]⟩
def zhs {d:Dim} (ok:DimOk d) (h:∀ m∈d.members,m.formula=⟨#[]⟩):(yi d).2=0:=by
 have h0:=ziM.2 ok;have hl:=ok.len;have iy:∀ i x,x∈rawN d i->∃ k:Nat,x=k∧i < k∧k < d.members.length:=by
  intro i x hx;unfold rawN at hx;split at hx
  ·rename_i m hm;rw[if_pos (h m (Ad hm))] at hx;have:=parts_up ok.rooted (Bz.1 hx).1;exact ⟨x.toNat,by omega,by omega,by omega⟩
  ·cases hx
 have aR:∀ i,i < d.members.length->zhB d i=none:=(by intro i hi;have hm:=Aa hi;unfold zhB;rw[hm];simp only;rw[if_neg (fun c=>c.1 (h _ (AO hi))),if_neg];intro c;have:=ziA.1 c;obtain ⟨k,hk,_⟩:=iy i _ ((zhn _).2 _ |>.1 this);omega);have cL:=ziX aR;have hnd:∀ a b,b∈nd (zfN d) a->a < b:=by
  intro a b hb;obtain ⟨x,hx,rfl⟩:=Am.1 hb;by_cases ha:a < d.members.length
  ·rw[Aw,allN_get ha] at hx;obtain ⟨k,rfl,hk,_⟩:=iy a x ((zhn _).2 _ |>.1 hx);omega
  ·rw[Aw,Ba (by rw[allN_len];omega)] at hx;cases hx
 have fN:∀ a b,Reach (zfN d) a b->a < b:=by
  intro a b hr
  induction hr with
  | one h=>exact hnd _ _ h
  | more h _ ih=>exact Nat.lt_trans (hnd _ _ h) ih
 rw[show yi d=gN d from if_neg (fun c=>c h0)];unfold gN;rw[A9.2 (fun i hi=>by rw[aR i (AR.1 hi)];rfl)];simp only;rw[A9.2 (fun i hi=>by
  unfold zjm;rw[if_neg (fun c=>CB _ (fN i i ((selfN_iff cL i).1 c)))]
  rfl)]
def zjC {o:List Dim} (ok:OutOk o) (h:noForm o):CubeOk o:=⟨ok,fun d hd=>zhs (ok.dims d hd) (h d hd)⟩
end
end Ab
