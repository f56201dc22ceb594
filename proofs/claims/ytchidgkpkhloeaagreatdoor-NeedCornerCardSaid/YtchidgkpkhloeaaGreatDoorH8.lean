import Derived.Test.YtchidgkpkhloeaaGreatDoorH7
set_option linter.unusedVariables false
set_option linter.unusedSimpArgs false
namespace Ab
open Go
section
def zdY (i:Nat):ByteArray:=⟨#[UInt8.ofNat (97+i / 26 % 26),UInt8.ofNat (97+i % 26)]⟩
theorem zfc:∀ i:Nat,i < 101->(match P68 (i:Int) with | some b=>decide (b=zdY i) | none=>false)=true:=by decide+kernel
theorem P68_eq (i:Nat) (h:i < 101):P68 (i:Int)=some (zdY i):=by
 have:=zfc i h;split at this
 ·rename_i b hb;rw[hb];simpa using this
 ·cases this
def flatM (i:Nat):Member:=⟨zdY i,0,1,⟨#[]⟩⟩
def zcR (name:ByteArray) (n:Nat):Dim:=⟨name,0,⟨⟨#[97,108,108]⟩, -1,0,⟨#[]⟩⟩ :: (List.range n).map flatM⟩
theorem P50_eq (name:ByteArray) (n:Nat) (h:n<=100):P50 name (n:Int)=some (zcR name n):=by
 have hs:=qu (B:=zfM P68 (n:Int)) (fun i=>((i:Int),(name,(0:Int),(zcR name i).members))) n (fun i hi=>by
  have e:((i:Nat):Int) < ((n:Nat):Int):=by omega
  have hr:(zcR name i).members.length+1<=roomB:=by simp[zcR];unfold roomB;omega
  have em:(zcR name (i+1)).members=(zcR name i).members++[flatM i]:=(by simp[zcR,List.range_succ]);simp only[zfM,e,decide_true,zt,P68_eq i (by omega),zB,List.length_singleton,zP hr,zaq,em];rw[j9 (by omega) (by omega)]
  rfl)
 have hs:lpO (zfM P68 (n:Int)) (0,(name,0,[⟨⟨#[97,108,108]⟩, -1,0,⟨#[]⟩⟩]))=some (.inl ((n:Int),(name,0,(zcR name n).members))):=hs.trans (q8 (by simp[zfM]));simp only[P50,S50,yF,hs,yO];rfl
def zF (n:Nat):List Dim:=[zcR ⟨#[120]⟩ n,zcR ⟨#[121]⟩ n]
theorem P22_eq (n:Nat) (h:n<=100):P22 (n:Int)=some (zF n):=by simp only[P22,S22,P50_eq _ n h,zB];rfl
end
section
def noForm (o:List Dim):Prop:=∀ d∈o,∀ m∈d.members,m.formula=⟨#[]⟩
theorem zf6 {d:Dim} (ok:DimOk d) (h:∀ m∈d.members,m.formula=⟨#[]⟩):(qZ d).2=0:=by
 have h0:=zfv.2 ok;have hl:=ok.len;have hraw:∀ i x,x∈zir d i->∃ k:Nat,x=k∧i < k∧k < d.members.length:=by
  intro i x hx;unfold zir at hx;split at hx
  ·rename_i m hm;rw[if_pos (h m (List.mem_of_getElem? hm))] at hx;have:=parts_up ok.rooted (List.mem_filter.1 hx).1;exact ⟨x.toNat,by omega,by omega,by omega⟩
  ·cases hx
 have hmem:∀ i,i < d.members.length->ze7 d i=none:=(by intro i hi;have hm:=List.getElem?_eq_getElem hi;unfold ze7;rw[hm];simp only;rw[if_neg (fun c=>c.1 (h _ (List.getElem_mem hi))),if_neg];intro c;have:=zhf.1 c;obtain ⟨k,hk,_⟩:=hraw i _ ((yX _).2 _ |>.1 this);omega);have hrng:=zeo hmem;have hnd:∀ a b,b∈nd (yt d) a->a < b:=by
  intro a b hb;obtain ⟨x,hx,rfl⟩:=List.mem_map.1 hb;by_cases ha:a < d.members.length
  ·rw[List.getD_eq_getElem?_getD,zep ha] at hx;obtain ⟨k,rfl,hk,_⟩:=hraw a x ((yX _).2 _ |>.1 hx);omega
  ·rw[List.getD_eq_getElem?_getD,List.getElem?_eq_none (by rw[zbF];omega)] at hx;cases hx
 have hreach:∀ a b,Reach (yt d) a b->a < b:=by
  intro a b hr
  induction hr with
  | one h=>exact hnd _ _ h
  | more h _ ih=>exact Nat.lt_trans (hnd _ _ h) ih
 rw[show qZ d=zbO d from if_neg (fun c=>c h0)];unfold zbO;rw[List.findSome?_eq_none_iff.2 (fun i hi=>by rw[hmem i (List.mem_range.1 hi)];rfl)];simp only;rw[List.findSome?_eq_none_iff.2 (fun i hi=>by
  unfold zdF;rw[if_neg (fun c=>Nat.lt_irrefl _ (hreach i i ((selfN_iff hrng i).1 c)))]
  rfl)]
theorem zih {o:List Dim} (ok:OutOk o) (h:noForm o):CubeOk o:=⟨ok,fun d hd=>zf6 (ok.dims d hd) (h d hd)⟩
end
section
end
end Ab
