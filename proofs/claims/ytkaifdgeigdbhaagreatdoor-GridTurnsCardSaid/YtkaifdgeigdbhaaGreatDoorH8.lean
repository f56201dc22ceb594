import Derived.Test.YtkaifdgeigdbhaaGreatDoorH7
set_option linter.unusedVariables false
set_option linter.unusedSimpArgs false
namespace Ab
open Go
section
def zex (i:Nat):ByteArray:=⟨#[UInt8.ofNat (97+i / 26 % 26),UInt8.ofNat (97+i % 26)]⟩
theorem zfR:∀ i:Nat,i < 101->(match P68 (i:Int) with | some b=>decide (b=zex i) | none=>false)=true:=by decide+kernel
theorem P68_eq (i:Nat) (h:i < 101):P68 (i:Int)=some (zex i):=by
 have:=zfR i h;split at this
 ·rename_i b hb;rw[hb];simpa using this
 ·cases this
def flatM (i:Nat):Member:=⟨zex i,0,1,⟨#[]⟩⟩
def zdr (name:ByteArray) (n:Nat):Dim:=⟨name,0,⟨⟨#[97,108,108]⟩, -1,0,⟨#[]⟩⟩ :: (List.range n).map flatM⟩
theorem P50_eq (name:ByteArray) (n:Nat) (h:n<=100):P50 name (n:Int)=some (zdr name n):=by
 have hs:=zJ (B:=zgp P68 (n:Int)) (fun i=>((i:Int),(name,(0:Int),(zdr name i).members))) n (fun i hi=>by
  have e:((i:Nat):Int) < ((n:Nat):Int):=by omega
  have hr:(zdr name i).members.length+1<=roomB:=by simp[zdr];unfold roomB;omega
  have em:(zdr name (i+1)).members=(zdr name i).members++[flatM i]:=(by simp[zdr,List.range_succ]);simp only[zgp,e,decide_true,zo,P68_eq i (by omega),zl,List.length_singleton,zC hr,wn,em];rw[ju (by omega) (by omega)]
  rfl)
 have hs:lpO (zgp P68 (n:Int)) (0,(name,0,[⟨⟨#[97,108,108]⟩, -1,0,⟨#[]⟩⟩]))=some (.inl ((n:Int),(name,0,(zdr name n).members))):=hs.trans (qm (by simp[zgp]));simp only[P50,S50,qY,hs,ji];rfl
def squareO (n:Nat):List Dim:=[zdr ⟨#[120]⟩ n,zdr ⟨#[121]⟩ n]
theorem P22_eq (n:Nat) (h:n<=100):P22 (n:Int)=some (squareO n):=by simp only[P22,S22,P50_eq _ n h,zl];rfl
end
section
def noForm (o:List Dim):Prop:=∀ d∈o,∀ m∈d.members,m.formula=⟨#[]⟩
theorem zgL {d:Dim} (ok:DimOk d) (h:∀ m∈d.members,m.formula=⟨#[]⟩):(qD d).2=0:=by
 have h0:=zgd.2 ok;have hl:=ok.len;have hraw:∀ i x,x∈zgQ d i->∃ k:Nat,x=k∧i < k∧k < d.members.length:=by
  intro i x hx;unfold zgQ at hx;split at hx
  ·rename_i m hm;rw[if_pos (h m (List.mem_of_getElem? hm))] at hx;have:=parts_up ok.rooted (List.mem_filter.1 hx).1;exact ⟨x.toNat,by omega,by omega,by omega⟩
  ·cases hx
 have hmem:∀ i,i < d.members.length->zdN d i=none:=(by intro i hi;have hm:=List.getElem?_eq_getElem hi;unfold zdN;rw[hm];simp only;rw[if_neg (fun c=>c.1 (h _ (List.getElem_mem hi))),if_neg];intro c;have:=zh0.1 c;obtain ⟨k,hk,_⟩:=hraw i _ ((zea _).2 _ |>.1 this);omega);have hrng:=zeY hmem;have hnd:∀ a b,b∈nd (zbk d) a->a < b:=by
  intro a b hb;obtain ⟨x,hx,rfl⟩:=List.mem_map.1 hb;by_cases ha:a < d.members.length
  ·rw[List.getD_eq_getElem?_getD,zik ha] at hx;obtain ⟨k,rfl,hk,_⟩:=hraw a x ((zea _).2 _ |>.1 hx);omega
  ·rw[List.getD_eq_getElem?_getD,List.getElem?_eq_none (by rw[zb0];omega)] at hx;cases hx
 have hreach:∀ a b,Reach (zbk d) a b->a < b:=by
  intro a b hr
  induction hr with
  | one h=>exact hnd _ _ h
  | more h _ ih=>exact Nat.lt_trans (hnd _ _ h) ih
 rw[show qD d=zav d from if_neg (fun c=>c h0)];unfold zav;rw[List.findSome?_eq_none_iff.2 (fun i hi=>by rw[hmem i (List.mem_range.1 hi)];rfl)];simp only;rw[List.findSome?_eq_none_iff.2 (fun i hi=>by
  unfold zed;rw[if_neg (fun c=>Nat.lt_irrefl _ (hreach i i ((selfN_iff hrng i).1 c)))]
  rfl)]
theorem cube_plain {o:List Dim} (ok:OutOk o) (h:noForm o):CubeOk o:=⟨ok,fun d hd=>zgL (ok.dims d hd) (h d hd)⟩
theorem zf2 (f:Int->Int):∀ (L:List Int),L.foldl (fun (c:Cell) (k:Int)=>if f k=0 then c else yP c ⟨0,0⟩ (f k)) ⟨0,0⟩=⟨0,0⟩
 | []=>rfl
 | k :: L=>by
  rw[List.foldl_cons];have:(if f k=0 then (⟨0,0⟩:Cell) else yP ⟨0,0⟩ ⟨0,0⟩ (f k))=⟨0,0⟩:=by
   split
   ·rfl
   ·simp[yP]
  rw[this];exact zf2 f L
theorem zfm {o:List Dim} (h:noForm o):∀ (n:Nat) (p:List Int),solN o [] n p=⟨0,0⟩
 | 0,_=>rfl
 | n+1,p=>by
  have e:solN o [] n=fun _=>⟨0,0⟩:=funext (zfm h n);show zaa o [] (solN o [] n) p=_;rw[e];unfold zaa;split
  ·rfl
  ·split
   ·rename_i d i hd hi;split
    ·rename_i m hm;rw[if_pos (h d (List.mem_of_getElem? hd) m (List.mem_of_getElem? hm))];exact zf2 _ _
    ·rfl
   ·rfl
theorem sol_zero {o:List Dim} (h:noForm o) (p:List Int):sol o [] p=⟨0,0⟩:=zfm h _ p
end
section
end
end Ab
