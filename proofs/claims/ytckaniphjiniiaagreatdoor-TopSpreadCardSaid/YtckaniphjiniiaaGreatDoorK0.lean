import Derived.Test.YtckaniphjiniiaaGreatDoorS4
import Derived.Test.YtckaniphjiniiaaGreatDoorQSr
import Derived.Test.YtckaniphjiniiaaGreatDoorW402
set_option linter.all false
namespace Ab
open Go
section
def lL_len (n:Nat) (f:Nat->Cell):(wx n f).length=n:=by simp[wx]
def lL_get {n k:Nat} (f:Nat->Cell) (h:k<n):(wx n f)[k]? = some (f k):=by unfold wx;rw[As,BU h];rfl
def gF_cells {nr nc:Nat} (f:Nat->Nat->Cell):(gridF nr nc f).cells.length=nr:=by simp[gridF]
def gF_get {nr nc i:Nat} (f:Nat->Nat->Cell) (h:i<nr):(gridF nr nc f).cells[i]? = some (wx nc (f i)):=by show ((List.range nr).map fun i=>wx nc (f i))[i]? = _;rw[As,BU h];rfl
def jN:List Dim:=[Dim.mk ⟨#[97]⟩ 0 [Member.mk ⟨#[98]⟩ (-1) 0 ⟨#[]⟩,Member.mk ⟨#[99]⟩ 0 1 ⟨#[]⟩]]
def zjz:(je jN).2.2=0∧zfD jN [⟨[1],7⟩]=0∧sizeN jN=2∧(jw jN 0).1=[0]∧jv jN [0]=0∧zcr jN [⟨[1],7⟩] [0]=(1,7):=by decide+kernel
def whole_all:∃c:Cell,P332 jN [⟨[1],7⟩]=some ([⟨1,7⟩,c],.nil):=by
 obtain⟨f1,f2,f3,f4,f5,f6⟩:=zjz;have ij:Lst Entry.gd [⟨[1],7⟩]:=by
  refine⟨by simp,fun e he => ?_⟩;obtain rfl:=Ah.1 he;refine⟨⟨by simp,fun x hx => ?_⟩, ?_⟩
  ·simp at hx;subst hx;constructor<;>omega
  ·constructor<;>simp only<;>omega
 have hn:zfY jN:=by simp[zfY,jN]
 have hc:CubeOk jN:=zmD (zbf.1 f1) hn;have hce:jj jN [⟨[1],7⟩]=0:=by unfold jj;rw[if_pos (zfb.2 hc)];exact f2
 have ok:RightC jN [⟨[1],7⟩]:=(zhl ij).1 hce;have hs:=sD ok hn (jB.1 f5);rw[f6] at hs;refine⟨sol jN [⟨[1],7⟩] (jw jN 1).1, ?_⟩;rw[P332_eq ij,if_pos hce];unfold allC;rw[f3];show some ([sol jN [⟨[1],7⟩] (jw jN 0).1,_],Err.nil)=_;rw[f4,hs]
section
variable {o:List Dim} {l:List Entry} {p:List Int} {n row col:Int}
def zjE (hn:zfY o) (h:(zO o l p n).2=0) (hm:zbY o (zdl o l (zO o l p n).1).1 p row col=0) :
  ∃(r c i k:Nat) (g:List Cell),row=r∧col=c∧p[r]? = some (i:Int)∧p[c]? = some (k:Int)∧(zeC o (zdl o l (zO o l p n).1).1 p r c).cells[i]? = some g∧g[k]? = some ⟨1,n⟩ ∧
   i<(zeC o (zdl o l (zO o l p n).1).1 p r c).cells.length∧k<g.length∧i<=1000∧k<=1000:=by
 obtain⟨b1,b2,b3,b4,b5,b6⟩:=n8 h;obtain⟨ok,hf,r,c,rfl,rfl,hr,hc,pr⟩:=make_ok all_gd hm;have hs:=sD ok hn hf;rw[b5] at hs;have gz:=hf.len;have hdr:=Aa (l:=o) (i:=r) (by omega);have il:=Aa (l:=o) (i:=c) (by omega);have dv:=Aa hr;have tw:=Aa hc;have mr:=hf.mem _ _ _ dv hdr;have mc:=hf.mem _ _ _ tw il;have lr:=(ok.cube.out.dims _ (Ay (l:=o) (n:=r) (by omega))).len;have lc:=(ok.cube.out.dims _ (Ay (l:=o) (n:=c) (by omega))).len;have enr:zmB o r=(o[r]).members.length:=by unfold zmB;rw[hdr];rfl
 have enc':zmB o c=(o[c]).members.length:=by unfold zmB;rw[il];rfl
 obtain⟨i,hi⟩:∃i:Nat,p[r]=i:=⟨(p[r]).toNat,by omega⟩;obtain⟨k,hk⟩:∃k:Nat,p[c]=k:=⟨(p[c]).toNat,by omega⟩;have bt:(p.set r (i:Int)).set c (k:Int)=p:=(by rw[←hi,←hk,Dl,Dl]);have g1:(zeC o (zdl o l (zO o l p n).1).1 p r c).cells[i]? = some (wx (zmB o c) (atG o (zdl o l (zO o l p n).1).1 p r c i)):=gF_get _ (by omega);have g2:(wx (zmB o c) (atG o (zdl o l (zO o l p n).1).1 p r c i))[k]? = some ⟨1,n⟩:=by rw[lL_get _ (by omega)];unfold atG;rw[bt,hs]
 have gl:(zeC o (zdl o l (zO o l p n).1).1 p r c).cells.length=zmB o r:=gF_cells _;exact⟨r,c,i,k,_,rfl,rfl,by rw[dv,hi],by rw[tw,hk],g1,g2,by omega,by rw[lL_len];omega,by omega,by omega⟩
def zgx (h:(zO o l p n).2=0) (hl:jj o l=0) (hm:¬zbY o (zdl o l (zO o l p n).1).1 p row col=0):row<0∨((p.length:Nat):Int)<=row∨col<0∨((p.length:Nat):Int)<=col∨row=col:=by
 obtain⟨b1,b2,b3,b4,b5,b6⟩:=n8 h;have hc:jj o (zdl o l (zO o l p n).1).1=0:=by
  unfold jj at hl ⊢;split at hl
  ·rename_i c;rw[if_pos c];exact zaG.2 b3
  ·rename_i c;exact absurd hl c
 unfold zbY at hm;rw[if_neg (fun e=>e hc),if_neg (fun e=>e (jB.2 b4))] at hm;split at hm
 ·rename_i c;omega
 ·split at hm
  ·rename_i c;omega
  ·exact absurd rfl hm
end
end
section
def P401_eq:P401=some true:=by
 obtain⟨c,hc⟩:=whole_all;have e7:jT 7=⟨1,7⟩:=by rfl
 unfold P401 S401;show bno (P332 jN [⟨[1],7⟩]) _=some true;rw[hc,zj];rw[show zu ([⟨1,7⟩,c]:List Cell) 0=some ⟨1,7⟩ from rfl];simp[e7]
def spread_gd {o:List Dim} {l:List Entry} {p:List Int} {n:Int} (hp:p.length<=9223372036854775807) (hz:(zO o l p n).2=0):Lst Edit.gd (zO o l p n).1∧jj o l=0:=by
 refine⟨?_, ?_⟩
 ·obtain⟨r,r1,r2,r3,r4,n0,n1,aK,fit,l0,l60,oW⟩:=sF hz;rw[r1];refine⟨by simp[yG];omega,fun e he => ?_⟩;obtain⟨i,hi,rfl⟩:=Bz he;simp[yG] at hi;simp only[yG,List.getElem_zipWith];obtain⟨f1,f2,f3⟩:=zew aK.out fit (Ay (l:=zo o p) (n:=i) (by omega));have cW:=r4 _ (Ay (l:=r) (n:=i) (by omega));have cx:=(zaW r4).2 _ (Ay (l:=r) (n:=i) (by omega));refine⟨⟨?_,fun x hx => ?_⟩, ?_⟩
  ·show List.length _<=_;rw[f1.len,←fit.len];exact hp
  ·obtain⟨j,hj,rfl⟩:=Bz hx;have nM:j<o.length:=by rw[←f1.len];exact hj
   have:=f1.mem j _ _ (Aa hj) (Aa nM);have hd:=aK.out.dm _ (Ay nM)
   constructor<;>omega
  ·constructor<;>simp only<;>omega
 ·unfold zO at hz;by_cases hc:jj o l=0
  ·exact hc
  ·rw[if_neg hc] at hz;exact absurd hz hc
def anyF (d:Dim):Bool:=d.members.any fun m=>decide (¬m.formula=⟨#[]⟩)
def form_dim {o:List Dim} {d:Dim} {i:Nat} (hd:o[i]? = some d) (hg:Dim.gd d):lpO (zfg o (i:Int)) 0=some (if anyF d=true then .inr (.fin true) else .inl (d.members.length:Int)):=by
 have hlen:d.members.length<=9223372036854775807:=hg.2.2.1;have h:=yo (B:=zfg o (i:Int)) d.members.length (fun k=>match d.members[k]? with|some m=>if m.formula=⟨#[]⟩ then none else some (LR.fin true)|none=>none) (fun k hk=>by
  have hm:=Aa hk;simp only[zfg,zg,hd,zj,show (k:Int)<(d.members.length:Int) by omega,decide_true,ze,hm];by_cases hf:d.members[k].formula=⟨#[]⟩
  ·simp only[hf,not_true,decide_false,za,ji,if_true];rw[zR (by omega) (by omega)]
  ·simp only[hf,not_false_eq_true,decide_true,ze,finO_s,if_false]) (by simp[zfg,zg,hd])
 rw[h];by_cases hh:anyF d=true
 ·rw[if_pos hh];obtain⟨m,pE,gb⟩:=BX.1 hh;simp only[decide_eq_true_eq] at gb;obtain⟨k,hk,rfl⟩:=Bz pE;cases hs:(List.range d.members.length).findSome? (fun k=>match d.members[k]? with|some m=>if m.formula=⟨#[]⟩ then none else some (LR.fin (σ:=Int) true)|none=>none) with
  | none =>have:=A9.1 hs k (AR.2 hk);rw[Aa hk] at this;simp[gb] at this
  | some r =>
   obtain⟨j,hj,hr⟩:=AO hs;split at hr
   ·split at hr
    ·cases hr
    ·cases hr;rfl
   ·cases hr
 ·rw[if_neg hh];have hs:(List.range d.members.length).findSome? (fun k=>match d.members[k]? with|some m=>if m.formula=⟨#[]⟩ then none else some (LR.fin (σ:=Int) true)|none=>none)=none:=(by refine A9.2 fun k hk => ?_;have hk:=AR.1 hk;rw[Aa hk];have:d.members[k].formula=⟨#[]⟩:=(by have:=Cq.1 (show d.members.any (fun m=>decide (¬m.formula=⟨#[]⟩))=false by simpa[anyF] using hh) _ (Ay hk);simpa using this);simp[this]);rw[hs]
def form_all {o:List Dim} (ho:Lst Dim.gd o):(lpO (zcU o) 0=some (.inr true))∨(lpO (zcU o) 0=some (.inl (o.length:Int))∧zfY o):=by
 have hlen:o.length<=9223372036854775807:=ho.1;have h:=yo (B:=zcU o) o.length (fun i=>match o[i]? with|some d=>if anyF d=true then some true else none|none=>none) (fun i hi=>by
  have hd:=Aa hi;simp only[zcU,show (i:Int)<(o.length:Int) by omega,decide_true,ze,zW,form_dim hd (ho.2 _ (Ay hi)),hd];by_cases hf:anyF o[i]=true
  ·simp only[if_pos hf,jn_r]
  ·simp only[if_neg hf,zY,ji];rw[zR (by omega) (by omega)]) (by simp[zcU])
 cases hs:(List.range o.length).findSome? (fun i=>match o[i]? with|some d=>if anyF d=true then some true else none|none=>none) with
 | some r =>
  obtain⟨j,hj,hr⟩:=AO hs;left;rw[h,hs];split at hr
  ·split at hr
   ·cases hr;rfl
   ·cases hr
  ·cases hr
 | none =>
  right;rw[h,hs];refine⟨rfl,fun d hd m hm => ?_⟩;obtain⟨i,hi,rfl⟩:=Bz hd;have:=A9.1 hs i (AR.2 hi);rw[Aa hi] at this;by_cases hf:anyF o[i]=true
  ·simp[hf] at this
  ·have h2:=Cq.1 (show (o[i]).members.any (fun m=>decide (¬m.formula=⟨#[]⟩))=false by simpa[anyF] using hf) m hm;simpa using h2
def p402 (o:List Dim) (ho:Lst Dim.gd o) (l:List Entry) (hl:Lst Entry.gd l) (p:List Int) (hp:p.length<=9223372036854775807) (n row col:Int):P402 o l p n row col=some true:=by
 unfold P402 S402;simp only[P401_eq,zj,AW,za,zW];rcases form_all ho with h|⟨h,hn⟩
 ·rw[h,jn_r]
 rw[h,zY];simp only[P382_eq hl hp,zj,zB];by_cases hz:(zO o l p n).2=0
 case neg=>rw[decide_eq_false hz,BN,ze]
 rw[decide_eq_true hz,AW,za];obtain⟨ij,hce⟩:=spread_gd hp hz;obtain⟨b1,b2,b3,b4,b5,b6⟩:=n8 hz;rw[P112_eq hl ij,zj];simp only[b2,zB,decide_true,AW,za];have e5:P377 o (zdl o l (zO o l p n).1).1 p row col=some (if zbY o (zdl o l (zO o l p n).1).1 p row col=0 then (zeC o (zdl o l (zO o l p n).1).1 p row.toNat col.toNat,.nil) else (⟨[],[],[]⟩,zn (zbY o (zdl o l (zO o l p n).1).1 p row col))):=by
  unfold P377;rw[if_pos ⟨all_gd,hp⟩]
  split<;>rfl
 rw[e5,zj];by_cases hm:zbY o (zdl o l (zO o l p n).1).1 p row col=0
 ·obtain⟨r,c,i,k,g,rfl,rfl,q1,q2,q3,q4,q5,q6,q7,q8⟩:=zjE hn hz hm;rw[if_pos hm];simp only[yC,AW,za,Ap,zg,q1,q2,zj];rw[decide_eq_true (show (0:Int)<=(i:Int) by omega),ze,decide_eq_true (show (i:Int)<((List.length (zeC o (zdl o l (zO o l p n).1).1 p r c).cells:Nat):Int) by omega),ze,decide_eq_true (show (0:Int)<=(k:Int) by omega),ze,q3,zj,decide_eq_true (show (k:Int)<((List.length g:Nat):Int) by omega),ze,zj,q4,zj];simp[jT,b6]
 ·rw[if_neg hm];have hw:=zgx hz hce hm;simp only[zB,decide_eq_false hm,BN,ze];by_cases c1:row<0
  ·simp[c1]
  by_cases c2:((p.length:Nat):Int)<=row
  ·simp[c1,c2]
  by_cases c3:col<0
  ·simp[c1,c2,c3]
  by_cases c4:((p.length:Nat):Int)<=col
  ·simp[c1,c2,c3,c4]
  have c5:row=col:=by omega
  simp[c1,c2,c3,c4,c5]
end
end Ab
