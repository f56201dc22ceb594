import Derived.Test.YtcknjppeompbkaaGreatDoorMT
import Derived.Sort.OwnSorted
import Derived.Sort.OwnSortedInts
import Derived.Lib.SlicesCompact
set_option linter.all false
noncomputable section
namespace Ab
open Go
section
set_option maxRecDepth 100000
section
variable (F40:LD->(Option Int)) (F44:Dim->Int->(Option Bool)) (F51:LD->(Option Err)) (F69:LD->Int->(Option LI))
def tc58:TCode:=.seq (rg [oq 2 (.box 0),om 4 cz]) (.seq (.seq (rg [om 7 1,oq 8 (.len false 7),oq 9 (.fa 0 2),oq 10 (.load none 9),oq 11 (.len false 10),oq 12 (.bin .int .neq 8 11)]) (.cond 12 (.seq (rg [oq 13 (.ifc 1 (ci 3)),om 4 13]) (.ret)) (.skip))) (.seq (.seq (rg [om 14 1,oq 15 (.len false 14),om 16 (ci 0)]) (.loop ⟨[.slot 16 .int],[5,6,17,18,19,20,21,22,23,24,25,26,27,28,29,30,31,32,33,35],[],[]⟩ 0 (.seq (rg [oq 17 (.bin .int .lss 16 15)]) (.seq (.cond 17 (.skip) (.exit 0)) (.seq (.block 1 (.seq (rg [om 18 16,oq 19 (.ia 1 14 16),oq 20 (.load none 19),om 5 18,om 6 20]) (.seq (.regionJ ⟨[.slot 33 .bool],[21,22,23,24,25,26,27,28,29,30,31,32],[],[]⟩ [om 21 6,oq 22 (.bin .int .lss 21 (ci 0)),om 23 22,og 24 (.mov 6) 23 false [],og 25 (.fa 0 2) 23 false [],og 26 (.load none 25) 23 false [],og 27 (.mov 5) 23 false [],og 28 (.ia 3 26 27) 23 false [],og 29 (.fa 2 28) 23 false [],og 30 (.load none 29) 23 false [],og 31 (.len false 30) 23 false [],og 32 (.bin .int .geq 24 31) 23 false [],oq 33 (.pick 23 (cb true) 32)] [] false) (.cond 33 (.seq (rg [oq 34 (.ifc 1 (ci 1)),om 4 34]) (.ret)) (.skip))))) (rg [oq 35 (.bin .int .add 16 (ci 1)),om 16 35])))))) (.seq (rg [om 4 cz]) (.ret)))) 
def tf58:TFunc:=⟨2,36,[.tmp 4],false,tc58,[]⟩
def S58_L1 (a0:LD) (a1:LI) (x1:Int):Option (LR Int Err) :=
 br (decide (x1 < (a1.length:Int)))
 (bno (qb a1 x1) fun y2 =>
 jn (σ:=Bool) (α:=(LR Int Err)) (br (decide (y2 < (0:Int)))
 (zD (some true))
 (bno (qb a0 x1) fun y3 =>
 zD (some (decide (((Dim.members y3).length:Int)<=y2))))) fun x4 =>
 br x4
 (wj (some (Err.no (1:Int))))
 (nxO (some (wi (x1+(1:Int))))))
 (dnO (some x1))
def S58 (a0:LD) (a1:LI):Option Err :=
 br (decide (¬ (a1.length:Int)=(a0.length:Int)))
 (some (Err.no (3:Int)))
 (lp (S58_L1 a0 a1) (0:Int) fun x5 =>
 some Err.nil)
def P58:=S58
def k58:CSpec:=⟨58,[(.st .outl),(.sl .int)],.err,fun x=>P58 x.1 x.2,false,[]⟩
def r58 {S:Seat} (h:Ok1 S 58 tf58):RtF S [] (Rt S k58):=okr h rfl fun x=>by kernel_rfl
def tc59:TCode:=.seq (rg [oq 2 (.box 0),om 4 (cb false)]) (.seq (.seq (rg [om 7 1,oq 8 (.len false 7),om 9 (ci 0)]) (.loop ⟨[.slot 9 .int],[5,6,10,11,12,13,14,15,16,17,18,19,20,21,22],[],[]⟩ 0 (.seq (rg [oq 10 (.bin .int .lss 9 8)]) (.seq (.cond 10 (.skip) (.exit 0)) (.seq (.block 1 (.seq (rg [om 11 9,oq 12 (.ia 1 7 9),oq 13 (.load none 12),om 5 11,om 6 13]) (.seq (rg [oq 14 (.fa 0 2),oq 15 (.load none 14),om 16 5,oq 17 (.ia 3 15 16),oq 18 (.load (some 3) 17),om 19 6,oq 20 (.call false [] 44 [18,19]),oq 21 (.un .not 20)]) (.cond 21 (.seq (rg [om 4 (cb false)]) (.ret)) (.skip))))) (rg [oq 22 (.bin .int .add 9 (ci 1)),om 9 22])))))) (.seq (rg [om 4 (cb true)]) (.ret))) 
def tf59:TFunc:=⟨2,23,[.tmp 4],false,tc59,[]⟩
def S59_L1 (a0:LD) (a1:LI) (x1:Int):Option (LR Int Bool) :=
 br (decide (x1 < (a1.length:Int)))
 (bno (qb a1 x1) fun y2 =>
 bno (qb a0 x1) fun y3 =>
 bno (F44 y3 y2) fun y4 =>
 br (!y4)
 (wj (some false))
 (nxO (some (wi (x1+(1:Int))))))
 (dnO (some x1))
def S59 (a0:LD) (a1:LI):Option Bool :=
 lp (S59_L1 F44 a0 a1) (0:Int) fun x5 =>
 some true
def P59:=S59 P44
def k59:CSpec:=⟨59,[(.st .outl),(.sl .int)],.bool,fun x=>P59 x.1 x.2,false,[]⟩
def r59 {S:Seat} (h:Ok1 S 59 tf59):RtF S [k44] (Rt S k59):=okr h rfl fun x=>by kernel_rfl
end
end
section
open Go Go.RowKit
def cloneC (frz:Bool) (z:Nat) (zero:List Value):TCode :=
 .seq (.region [⟨some 2,.mov (.c (.slice none 0 0)),none,[]⟩] [] false)
  (.seq (.seq (.region [⟨some 3,.mov (.t 0),none,[]⟩,⟨some 4,.eqn true false (.t 3),none,[]⟩] [] false)
    (.cond (.t 4) (.seq (.region [⟨some 2,.mov (.c (.slice none 0 0)),none,[]⟩] [] false) .ret) .skip))
   (.seq (.region [⟨some 5,.bslice frz z zero 0 [],none,[]⟩,⟨some 6,.mov (.t 0),none,[]⟩,⟨some 7,.app z (.t 5) (.t 6),none,[]⟩,⟨some 2,.mov (.t 7),none,[]⟩] [] false) .ret))
def wQ (frz:Bool) (z:Nat) (zero:List Value):TFunc:={ np:=1,nt:=8,res:=[.tmp 2],own:=true,body:=cloneC frz z zero }
section
variable {S:Seat} {id:Nat} {frz:Bool} {z:Nat} {zero:List Value}
def zgk {M:Rets} {x:AV} {es:List (List AV)} (hx:∀ (d:Nat) (st:ASt),st.ev (.t 3)=x->aop (.eqn true false (.t 3)) d st=some (.v (.bool false),st)) (he:∀ hp,jz hp z x=some es)
  (al:es.length<=zan z) (st:ASt) (h0:st.fr 0=x) (h1:st.hp=fun _=>none):∃ aa,Ex M (cloneC frz z zero).er st .ret aa∧qo true [] [.tmp 2] aa=some (.own z es,[])∧qo false [] [.tmp 2] aa=some (.sl z es,[]):=by
 let st1:=st.put 2 (.v (.slice none 0 0))
 let ai:=st1.put 3 x
 let gS:=ai.put 4 (.v (.bool false))
 let gR:=(gS.setH 5 (some (.arr z []))).put 5 (.lsl 5 z 0 0)
 let gQ:=gR.put 6 x
 let st6:=((gQ.scrub 5).setH 5 (some (.arr z es))).put 7 (.lsl 5 z 0 es.length)
 let iB:=st6.put 2 (.lsl 5 z 0 es.length)
 have e0:st1.fr 0=x:=h0;have e3:gR.fr 0=x:=h0;have a1:aop (.mov (.t 0)) 3 st1=some (x,st1):=by show some (st1.fr 0,st1)=_;rw[e0]
 have a2:aop (.eqn true false (.t 3)) 4 ai=some (.v (.bool false),ai):=hx 4 ai rfl;have a3:aop (.bslice frz z zero 0 []) 5 gS=some (.lsl 5 z 0 0,gS.setH 5 (some (.arr z []))):=by
  have hU:gS.hp 5=none:=by show st.hp 5=none;rw[h1]
  have hr:qT gS []=[]:=rfl;simp only[aop,hU,zb,hr,or_true,if_true,ASt.freezeL,List.replicate_zero,List.foldl_nil]
 have a4:aop (.mov (.t 0)) 6 gR=some (x,gR):=by show some (gR.fr 0,gR)=_;rw[e3]
 have a5:aop (.app z (.t 5) (.t 6)) 7 gQ=some (.lsl 5 z 0 es.length,(gQ.scrub 5).setH 5 (some (.arr z es))):=(by have e6:gQ.ev (.t 6)=x:=rfl;have e5:gQ.ev (.t 5)=.lsl 5 z 0 0:=rfl;have hU:gQ.hp 5=some (.arr z []):=rfl;simp only[aop,e6,he,e5,hU,B4,AL,AA];rw[if_pos ⟨rfl,trivial,trivial,trivial,al⟩])
 refine ⟨iB,.seqN (.region (.cons (.inl ⟨rfl,_,st,rfl,rfl⟩) (.nil _))) (.seqN (b:=ACode.seq _ _) (st1:=gS) (.seqN (.region (.cons (.inl ⟨rfl,_,_,a1,rfl⟩) (.cons (.inl ⟨rfl,_,_,a2,rfl⟩) (.nil _)))) (.cond (t:=false) rfl (.skip _)))
  (.seqN (.region (.cons (.inl ⟨rfl,_,_,a3,rfl⟩) (.cons (.inl ⟨rfl,_,_,a4,rfl⟩) (.cons (.inl ⟨rfl,_,_,a5,rfl⟩) (.cons (.inl ⟨rfl,_,_,rfl,rfl⟩) (.nil _)))))) (.ret _))), ?_⟩
 have e2:iB.fr 2=.lsl 5 z 0 es.length:=rfl;have hU:iB.hp 5=some (.arr z es):=rfl;have x1:zS iB (.lsl 5 z 0 es.length)=some (.own z es):=by simp only[zS,hU];rw[if_pos ⟨trivial,trivial,rfl⟩]
 refine ⟨?_, ?_⟩
 ·simp only[qo,zb,q8,e2,if_true,x1,zH];rw[if_pos (by exact ⟨rfl,trivial⟩)]
 ·have x2:qm iB.hp (.lsl 5 z 0 es.length)=some (.sl z es):=by simp[qm,qn,hU]
  simp only[qo,zb,q8,e2,x2,zH];rfl
def oh (h:Ok1 S id (wQ frz z zero)) {x:AV} {es:List (List AV)} (hx:∀ (d:Nat) (st:ASt),st.ev (.t 3)=x->aop (.eqn true false (.t 3)) d st=some (.v (.bool false),st)) (he:∀ hp,jz hp z x=some es) (ho:zm x=false)
  (al:es.length<=zan z):(za S).ret id [x] (.own z es) []:=by
 obtain ⟨aa,k1,k2,_⟩:=zgk (M:=za S) (frz:=frz) (zero:=zero) hx he al (enter [] [x]) (by
  clear hx he;cases x with
  | own=>simp[zm] at ho
  | _=>rfl) (qH [] 0 [x] (by simpa using ho))
 exact h id (wQ frz z zero).er [x] (.own z es) [] (if_pos rfl) ⟨rfl,by simp[qi,ho,zj,TFunc.er,wQ],.ret,aa,k1,.inr rfl,k2⟩
def clone_nil (h:Ok1 S id (wQ frz z zero)):(za S).ret id [aN] aN []:=by refine h id (wQ frz z zero).er [aN] aN [] (if_pos rfl) ⟨rfl,rfl,.ret,_,.seqN (.region (.cons (.inl ⟨rfl,_,_,rfl,rfl⟩) (.nil _))) (.seqE (.seqN (.region (.cons (.inl ⟨rfl,_,_,rfl,rfl⟩) (.cons (.inl ⟨rfl,_,_,rfl,rfl⟩) (.nil _)))) (.cond (t:=true) rfl (.seqN (.region (.cons (.inl ⟨rfl,_,_,rfl,rfl⟩) (.nil _))) (.ret _)))) (by intro e;cases e)),.inr rfl,rfl⟩
def zgl (h:Ok1 S id (wQ frz z zero)) {es:List (List AV)} (al:es.length<=zan z):(za S).ret id [.sl z es] (.own z es) []:=by
 cases es with
 | cons e es =>refine oh h (fun d st hs => ?_) (fun hp=>by simp[jz]) rfl al;simp only[aop,hs,if_true]
 | nil =>
  intro g hg;refine wF (fun A w vs hl hA hJ ha => ?_) (by simp[zm]);have hv:=ha 0 _ rfl;have c1:(za S).ret id [aN] (.own z []) []:=zer rfl rfl (.inr (.inr ⟨rfl,z,rfl⟩)) (clone_nil h);have c2:∀ a cap,(za S).ret id [.v (.slice (some a) 0 cap)] (.own z []) []:=fun a cap =>
   oh h (fun d st hs=>by simp only[aop,hs,if_true]) (fun hp=>rfl) rfl (by exact BG _)
  have use:∀ x,(za S).ret id [x] (.own z []) []->zm x=false->VR0 S A w x (vs.getD 0 undef)->Calls S.P g vs w fun e w'=>∃ v,e=.returned v∧KeepO S.jg w w'∧S.jn w'∧zgD S A w w' (.own z []) v:=fun x hr ho hx =>
   (hr g hg).old (by simpa using ho) A w vs hl hA hJ fun i y hy=>by
    cases i with
    | zero=>simp at hy;subst hy;exact hx
    | succ i=>simp at hy
  have hs:=VR.sl_inv (σ:=fun _=>none) (.of0 hv);rcases hs with ⟨_,hr⟩ | ⟨b,o',cap,u,hr,_⟩ | ⟨_,a,cap,hr⟩
  ·exact use aN c1 rfl (by rw[hr];exact .v _)
  ·exact use _ (c2 _ cap) rfl (by rw[hr];exact .v _)
  ·exact use _ (c2 a cap) rfl (by rw[hr];exact .v _)
def ret_soft {f:Nat} {as:List AV} {es:List (List AV)} (ha:∀ x∈as,zm x=false) (h:(za S).ret f as (.own z es) []):(za S).ret f as (.sl z es) []:=by
 intro g hg;refine wF (fun A w vs hl hA hJ hargs=>((h g hg).old ha A w vs hl hA hJ hargs).mono ?_) ha;rintro e w' ⟨v,he,hk,hj,β,hβ,aA,hv⟩;refine ⟨v,he,hk,hj,fun _=>none,by simp,by simp, ?_⟩;have hv:z7 S (zI A β w w') w' (β 0) z es v:=hv;show none=none∧VR0 S (zI A (fun _=>none) w w') w' (.sl z es) v;refine ⟨rfl, ?_⟩;have hA:∀ b,zI A β w w' b->zI A (fun _=>none) w w' b:=fun b hb=>⟨hb.1,hb.2.1,by simp⟩;obtain ⟨h0,⟨_,rfl,rfl⟩ | ⟨b,cap,us,el,h1,rfl,h2,h3,h4,h5,h6,h7⟩⟩:=hv
 ·exact .slnil z
 ·obtain ⟨q1,q2⟩:=hβ 0 b h1;have hle:es.length * z<=us.size:=AH (Az _ h2) h5;exact .sl (u:=fun j=>us.getD j undef) ⟨.inr q1,q2,by simp⟩ h2 h0 (fun j hj=>by
   have:j < us.size:=by omega
   simp[World.cell?,h4,this,Array.getD]) h6 fun i e c x hi hc=>(h7 i e c x hi hc).mono hA fun _ _=>rfl
end
def zdy {α:Type} (xs:List α):Option (List α):=ck (decide (xs.length<=qB)) (some xs)
def zhH {α:Type} {xs ys:List α} (h:zdy xs=some ys):xs.length<=qB∧ys=xs:=by obtain ⟨h1,h2⟩:=qg h;exact ⟨of_decide_eq_true h1,(Option.some.inj h2).symm⟩
def oi {S:Seat} {id:Nat} {frz:Bool} {zero:List Value} {t:Ty} (h:Ok1 S id (wQ frz t.z zero)) (xs:List t.den) (ys:List t.den) (hy:zdy xs=some ys) (hz:Nat.ble t.z 2=true:=by rfl):(za S).ret id (encAL [.sl t] xs) (encA (.own t) ys) []:=by obtain ⟨h1,rfl⟩:=zhH hy;exact zgl h (by rw[Ar];unfold zan;rw[hz];exact h1)
def zhu {S:Seat} {id:Nat} {frz:Bool} {zero:List Value} {t:Ty} (h:Ok1 S id (wQ frz t.z zero)) (xs:List t.den) (ys:List t.den) (hy:zdy xs=some ys) (hz:Nat.ble t.z 2=true:=by rfl):(za S).ret id (encAL [.sl t] xs) (encA (.sl t) ys) [] :=
 ret_soft (by simp[encAL,encA,zm]) (oi h xs ys hy hz)
def tf76:TFunc:=wQ false 1 [.int .i64 0]
def P76s (xs:List Int):Option (List Int):=zdy xs
def k76s:CSpec:=⟨76,[.sl .int],.sl .int,fun x=>P76s x,false,[]⟩
def r76s {S:Seat} (h:Ok1 S 76 tf76):Rt S k76s:=fun x y hy=>zhu (t:=.int) h x y hy
def P79 (xs:List Entry):Option (List Entry):=zdy xs
def tf79:TFunc:=wQ true 2 [.slice none 0 0,.int .i64 0]
def k79:CSpec:=⟨79,[.sl .entry],.own .entry,fun x=>P79 x,false,[]⟩
def r79 {S:Seat} (h:Ok1 S 79 tf79):Rt S k79:=fun x y hy=>oi (t:=.entry) h x y hy
end
section
open Go Go.RowKit Go.Sort Go.Proofs
def zco (l:List Int):List Int:=l.mergeSort fun x y=>decide (x<=y)
def zgh (l:List Int):List Int:=Lib.compact l
def yi (l:List Int):(zco l).length=l.length:=by unfold zco;rw[List.length_mergeSort]
def SortIAt (S:Seat):Prop:=∀ g,qh g S.fns=some 213 ->
 (∀ (blk cap:Nat) (ss:List Int) (w:World),Holds (Value.int .i64) w blk 0 ss.toArray->blk < w.heap.size->ss.length < 4611686018427387904 ->
  Calls S.P g #[.slice (some ⟨blk,0,none⟩) ss.length cap] w fun e w'=>e=.returned (.tuple #[])∧∃ n os,w'=grow (putRow (Value.int .i64) (Sort.ahead w n) blk 0 (ss.mergeSort fun x y=>decide (x<=y)).toArray) os) ∧
 ∀ (p:Option Addr) (cap:Nat) (w:World),Calls S.P g #[.slice p 0 cap] w fun e w'=>e=.returned (.tuple #[])∧w'=w
def CompIAt (S:Seat):Prop:=∀ g,qh g S.fns=some 302 ->
 (∀ (blk cap:Nat) (zs:List Int) (w:World),Holds (Value.int .i64) w blk 0 zs.toArray->zs.length<=9223372036854775807->zs.length<=cap ->
  Calls S.P g #[.slice (some ⟨blk,0,none⟩) zs.length cap] w fun e w'=>e=.returned (.slice (some ⟨blk,0,none⟩) (Lib.compact zs).length cap) ∧
   ∃ q,w'=putRow (Value.int .i64) (Sort.ahead w q) blk 0 (Lib.compact zs++List.replicate (zs.length - (Lib.compact zs).length) 0).toArray) ∧
 ∀ (a:Option Addr) (cap:Nat) (w:World),Calls S.P g #[.slice a 0 cap] w fun e w'=>e=.returned (.slice a 0 cap)∧w'=w
def zfI {S:Seat} {A:Nat->Prop} {w:World} {b cap:Nat} {cur:Array Value} {el:TypeId} {zs:List Int} (hb:w.heap[b]? = some (.cells cur el (0,0))) (ht:cur.toList.take zs.length=zs.map (Value.int .i64)) (h1:zs.length<=cap) (h2:cap<=maxLen) (h3:cap<=cur.size) :
  z7 S A w (some b) 1 (zs.map fun s=>[aI s]) (.slice (some ⟨b,0,none⟩) zs.length cap):=by
 have hl:(zs.map fun s=>[aI s]).length=zs.length:=by simp
 have aZ:∀ j,j < zs.length->cur.getD j undef=(Value.int .i64) (zs[j]?.getD 0):=fun j hj=>by
  have h4:(cur.toList.take zs.length)[j]? = (zs.map (Value.int .i64))[j]?:=by rw[ht]
  rw[AQ hj,Bh,Aw] at h4;rw[Aj,h4,Ac hj];rfl
 refine ⟨fun e he => ?_,.inr ⟨b,cap,cur,el,rfl,by rw[hl],by rw[hl];exact h1,h2,hb,by omega,fun j hj => ?_,fun i e c x hi hc => ?_⟩⟩
 ·obtain ⟨s,_,rfl⟩:=Ap.1 he;rfl
 ·rw[hl] at hj;rw[aZ j (by omega)];rfl
 ·have aQ:i < zs.length:=by have:=(Aa.1 hi).1;omega
  rw[Aw,Ac aQ] at hi;cases hi
  match c,hc with
  | 0,hc =>cases hc;rw[Co,Bo,aZ i aQ,Ac aQ];exact .v _
  | c+1,hc=>simp at hc
def zdV {S:Seat} {A:Nat->Prop} {w:World} {b?:Option Nat} {l:List Int} {v:Value} (h:z7 S A w b? 1 (l.map fun s=>[aI s]) v) :
  (b? = none∧l=[]∧v=.slice none 0 0)∨∃ b cap cur el,b? = some b∧v=.slice (some ⟨b,0,none⟩) l.length cap∧l.length<=cap∧cap<=maxLen∧w.heap[b]? = some (.cells cur el (0,0))∧cap<=cur.size∧cur.toList.take l.length=l.map (Value.int .i64):=by
 obtain ⟨_,⟨h1,h2,h3⟩ | ⟨b,cap,cur,el,h1,h2,h3,h4,h5,h6,h7,h8⟩⟩:=h
 ·exact .inl ⟨h1,by simpa using h2,h3⟩
 ·have hl:(l.map fun s=>[aI s]).length=l.length:=by simp[]
  rw[hl] at h2 h3 h7;refine .inr ⟨b,cap,cur,el,h1,h2,h3,h4,h5,by omega, ?_⟩;apply List.ext_getElem?;intro j;by_cases hj:j < l.length
  ·have bF:j < l.length:=by rw[] at hj;exact hj
   rw[AQ hj,Bh,Aw,Ac bF];have:=h8 j [aI l[j]] 0 (aI l[j]) (by rw[Aw,Ac bF];rfl) rfl;rw[Co,Bo] at this;have e:=VR.v_inv (σ:=fun _=>none) (.of0 this);have hs:j < cur.size:=by omega
   rw[Aj,A8 hs] at e;rw[A8 hs];exact congrArg some e
  ·rw[List.getElem?_take_eq_none (by omega),BC (by simp;omega)]
def zbP {w w':World} {ι:Nat->Option Nat} {b:Nat} (h:w.grownBy w' (some b)) (hb:ι 0=some b):KeepO (qI ι) w w' :=
 ⟨h.os,h.tape,h.output,h.size,fun k hk hn=>h.block k hk fun e=>hn ⟨0,by rw[hb,Option.some.inj e]⟩⟩
def P213 (l:List Int):Option (List Int):=ck (decide (List.length l<=qB)) (some (zco l))
def k213:CSpec:=⟨213,[.own .int],.own .int,fun x=>P213 x,false,[0]⟩
def r213 {S:Seat} (h:SortIAt S):Rt S k213:=fun (l:List Int) (y:List Int) hy=>by
 obtain ⟨h1,h2⟩:=qg (show P213 l=some y from hy);have h1:=of_decide_eq_true h1;obtain rfl:=Option.some.inj h2;show (za S).ret 213 [.own 1 (l.map fun s=>[aI s])] (.tup []) [(0,(zco l).map fun s=>[aI s])];intro g hg;refine zeg.up ?_;intro A w vs ι hl hA hι hargs;obtain ⟨hS,hN⟩:=h g hg;obtain ⟨x0,rfl⟩:∃ x0,vs=#[x0]:=by
  obtain ⟨r⟩:=vs
  match r,hl with
  | [x0],_=>exact ⟨x0,rfl⟩
 have h0:z7 S A w (ι 0) 1 (l.map fun s=>[aI s]) x0:=hargs 0 _ rfl;have bC:∀ i b,ι i=some b->i=0:=fun i b hb=>by have:=(hι.1 i b hb).1;simp at this;omega
 rcases zdV h0 with ⟨b1,rfl,rfl⟩ | ⟨b,cap,cur,el,b1,rfl,b3,b4,b5,b6,b7⟩
 ·refine (hN none 0 w).mono ?_;rintro e w' ⟨rfl,rfl⟩;refine ⟨_,rfl,KeepO.refl _ _,fun _=>none,by simp,by simp,fun i es z bf hm ha => ?_,⟨#[],rfl,rfl,by simp⟩⟩;obtain ⟨rfl,rfl⟩:=Prod.mk.inj (Ai.1 hm);cases ha;refine ⟨by simp[zco], ?_,fun b cs el hb=>by rw[b1] at hb;cases hb⟩;rw[b1];exact ⟨by simp[zco],.inl ⟨rfl,by simp[zco],rfl⟩⟩
 ·have hH:Holds (Value.int .i64) w b 0 l.toArray:=holds_of_blockI b5 b7;have aq:b < w.heap.size:=(Bb.1 b5).1;refine (hS b cap l w hH aq (by rw[];unfold qB at h1;omega)).mono ?_;rintro e w' ⟨rfl,n,os,rfl⟩;have ij:=grownBy_sortedI (w:=w) (g:=b) (n:=n) (os:=os) (l.mergeSort fun x y=>decide (x<=y)).toArray;have cX:=heap_sortedI (n:=n) (os:=os) (l.mergeSort fun x y=>decide (x<=y)).toArray b5;have hml:(l.mergeSort fun x y=>decide (x<=y)).length=l.length:=List.length_mergeSort ..;refine ⟨_,rfl,zbP ij b1,fun _=>none,by simp,by simp,fun i es z bf hm ha => ?_,⟨#[],rfl,rfl,by simp⟩⟩;obtain ⟨rfl,rfl⟩:=Prod.mk.inj (Ai.1 hm);cases ha;refine ⟨by simp[yi], ?_,fun b' cs bJ hb hc => ?_⟩
  ·rw[b1];have:=zfI (S:=S) (A:=zI (fun b=>A b∨jO ι [(0,(zco l).map fun s=>[aI s])] b) (fun _=>none) w (grow (putRow (Value.int .i64) (Sort.ahead w n) b 0 (l.mergeSort fun x y=>decide (x<=y)).toArray) os)) cX (zs:=l.mergeSort fun x y=>decide (x<=y)) (cap:=cap) (take_putCellsI cur _ (by omega)) (by omega) b4 (by simpa[putCells] using b6);rw[hml] at this;exact this
  ·rw[b1] at hb;obtain rfl:=Option.some.inj hb;rw[b5] at hc;cases hc;exact ⟨_,cX,by simp[putCells]⟩
def P302 (l:List Int):Option (List Int):=ck (decide (List.length l<=qB)) (some (zgh l))
def k302:CSpec:=⟨302,[.own .int],.own .int,fun x=>P302 x,false,[1000]⟩
def r302 {S:Seat} (h:CompIAt S):Rt S k302:=fun (l:List Int) (y:List Int) hy=>by
 obtain ⟨h1,h2⟩:=qg (show P302 l=some y from hy);have h1:=of_decide_eq_true h1;obtain rfl:=Option.some.inj h2;show (za S).ret 302 [.own 1 (l.map fun s=>[aI s])] (.own 1 ((zgh l).map fun s=>[aI s])) [];intro g hg;refine zeg.up ?_;intro A w vs ι hl hA hι hargs;obtain ⟨hS,hN⟩:=h g hg;obtain ⟨x0,rfl⟩:∃ x0,vs=#[x0]:=by
  obtain ⟨r⟩:=vs
  match r,hl with
  | [x0],_=>exact ⟨x0,rfl⟩
 have h0:z7 S A w (ι 0) 1 (l.map fun s=>[aI s]) x0:=hargs 0 _ rfl;rcases zdV h0 with ⟨b1,rfl,rfl⟩ | ⟨b,cap,cur,el,b1,rfl,b3,b4,b5,b6,b7⟩
 ·refine (hN none 0 w).mono ?_;rintro e w' ⟨rfl,rfl⟩;refine ⟨_,rfl,KeepO.refl _ _,fun _=>none,by simp,by simp,(fun i es z bf hm=>by cases hm), ?_⟩;have e0:zgh []=[]:=by simp[zgh,Lib.compact,Lib.compactUpTo]
  rw[e0];exact ⟨by simp,.inl ⟨rfl,rfl,rfl⟩⟩
 ·have hH:Holds (Value.int .i64) w b 0 l.toArray:=holds_of_blockI b5 b7;have aq:b < w.heap.size:=(Bb.1 b5).1;have hle:(Lib.compact l).length<=l.length:=(by unfold Lib.compact Lib.compactUpTo;rw[Ar];exact AH (Bs _ _) (by simp));refine (hS b cap l w hH (by rw[];unfold qB at h1;omega) b3).mono ?_;rintro e w' ⟨rfl,q,rfl⟩;generalize gV:Lib.compact l++List.replicate (l.length - (Lib.compact l).length) 0=zz;have kN:zz.length=l.length:=by rw[← gV];simp;omega
  have ij:=grownBy_sortedI (w:=w) (g:=b) (n:=q) (os:=#[]) zz.toArray;have cX:=heap_sortedI (n:=q) (os:=#[]) zz.toArray b5;rw[grow_empty] at ij cX;have ht:=take_putCellsI cur zz (by omega);have ht2:(putCells (Value.int .i64) 0 zz.toArray cur).toList.take (Lib.compact l).length=(Lib.compact l).map (Value.int .i64):=by
   have:(putCells (Value.int .i64) 0 zz.toArray cur).toList.take (Lib.compact l).length=((putCells (Value.int .i64) 0 zz.toArray cur).toList.take zz.length).take (Lib.compact l).length:=by rw[Cp,Nat.min_eq_left (by omega)]
   rw[this,ht,← gV,Bl];exact Cj (by simp)
  have hβ:∀ i b',(if i=0 then some b else none)=some b'->i=0∧b'=b:=fun i b' h=>by
   split at h
   ·rename_i e;cases h;exact ⟨e,rfl⟩
   ·cases h
  refine ⟨_,rfl,zbP ij b1,fun i=>if i=0 then some b else none,fun i b' ig => ?_,fun i j b' hi hj=>(hβ i b' hi).1.trans (hβ j b' hj).1.symm,(fun i es z bf hm=>by cases hm), ?_⟩
  ·obtain ⟨_,rfl⟩:=hβ i b' ig;exact ⟨.inr ⟨0,b1,fun es=>by simp⟩,AD aq ij.size⟩
  ·show z7 S _ _ (some b) 1 ((Lib.compact l).map fun s=>[aI s]) _;exact zfI cX ht2 (by omega) b4 (by simpa[putCells] using b6)
end
end Ab
