/-
  slices.Insert and slices.Delete of entries, as functions that are zj rows.
-/
import Derived.Test.YtcknjppeompbkaaGreatDoorB2
import Derived.Test.YtcknjppeompbkaaGreatDoorMSw
set_option linter.all false
noncomputable section
namespace Ab
open Go Go.RowKit Go.Shelf
def wu (R:AV->Value->Prop):List (List AV)->List Value->Prop
 | [],[]=>True
 | [x,y] :: es,u :: v :: cs=>R x u∧R y v∧u.oneCell'=true∧v.oneCell'=true∧wu R es cs
 | _,_=>False
def wu.cons_inv {R:AV->Value->Prop} {e:List AV} {es:List (List AV)} {cs:List Value} (h:wu R (e :: es) cs):∃ x y u v an,e=[x,y]∧cs=u :: v :: an∧R x u∧R y v∧u.oneCell'=true∧v.oneCell'=true∧wu R es an:=by
 match e,cs,h with
 | [x,y],u :: v :: an,h=>exact ⟨x,y,u,v,an,rfl,rfl,h⟩
def wu.nil_inv {R:AV->Value->Prop} {cs:List Value} (h:wu R [] cs):cs=[]:=by
 cases cs with
 | nil=>rfl
 | cons a l=>simp[wu] at h
def wu.append {R:AV->Value->Prop}:∀ {es:List (List AV)} {cs:List Value} {fs:List (List AV)} {ds:List Value},wu R es cs->wu R fs ds->wu R (es++fs) (cs++ds)
 | [],cs,fs,ds,h,k=>by rw[h.nil_inv];exact k
 | e :: es,cs,fs,ds,h,k=>by
  obtain ⟨x,y,u,v,an,rfl,rfl,h1,h2,h3,h4,h5⟩:=h.cons_inv;exact ⟨h1,h2,h3,h4,h5.append k⟩
def wu.take {R:AV->Value->Prop}:∀ {es:List (List AV)} {cs:List Value} (i:Nat),wu R es cs->wu R (es.take i) (cs.take (i * 2))
 | [],cs,i,h=>by rw[h.nil_inv];simp[wu]
 | e :: es,cs,0,h=>by simp[wu]
 | e :: es,cs,i+1,h=>by
  obtain ⟨x,y,u,v,an,rfl,rfl,h1,h2,h3,h4,h5⟩:=h.cons_inv;rw[show (i+1) * 2=i * 2+2 by omega];exact ⟨h1,h2,h3,h4,h5.take i⟩
def wu.drop {R:AV->Value->Prop}:∀ {es:List (List AV)} {cs:List Value} (i:Nat),wu R es cs->wu R (es.drop i) (cs.drop (i * 2))
 | [],cs,i,h=>by rw[h.nil_inv];simp[wu]
 | e :: es,cs,0,h=>by simpa using h
 | e :: es,cs,i+1,h=>by
  obtain ⟨x,y,u,v,an,rfl,rfl,h1,h2,h3,h4,h5⟩:=h.cons_inv;rw[show (i+1) * 2=i * 2+2 by omega];exact h5.drop i
def wu.length {R:AV->Value->Prop}:∀ {es:List (List AV)} {cs:List Value},wu R es cs->cs.length=es.length * 2
 | [],cs,h=>by rw[h.nil_inv];rfl
 | e :: es,cs,h=>by
  obtain ⟨x,y,u,v,an,rfl,rfl,h1,h2,h3,h4,h5⟩:=h.cons_inv;have:=h5.length;simp only[AK];omega
def wu.len2 {R:AV->Value->Prop}:∀ {es:List (List AV)} {cs:List Value},wu R es cs->∀ e∈es,e.length=2
 | [],cs,h,e,he=>by cases he
 | e :: es,cs,h,e',he=>by
  obtain ⟨x,y,u,v,an,rfl,rfl,h1,h2,h3,h4,h5⟩:=h.cons_inv;rcases Aq.1 he with rfl | he
  ·rfl
  ·exact h5.len2 e' he
def wu.one {R:AV->Value->Prop}:∀ {es:List (List AV)} {cs:List Value},wu R es cs->∀ u∈cs,u.oneCell'=true
 | [],cs,h,u,hu=>by rw[h.nil_inv] at hu;cases hu
 | e :: es,cs,h,u',hu=>by
  obtain ⟨x,y,u,v,an,rfl,rfl,h1,h2,h3,h4,h5⟩:=h.cons_inv;rcases Aq.1 hu with rfl | hu
  ·exact h3
  ·rcases Aq.1 hu with rfl | hu
   ·exact h4
   ·exact h5.one u' hu
def wu.get {R:AV->Value->Prop}:∀ {es:List (List AV)} {cs:List Value} (rest:List Value),wu R es cs->∀ (i:Nat) (e:List AV) (c:Nat) (x:AV),es[i]? = some e->e[c]? = some x->R x ((cs++rest).getD (i * 2+c) undef)
 | [],cs,rest,h,i,e,c,x,hi,hc=>by cases hi
 | e0 :: es,cs,rest,h,i,e,c,x,hi,hc=>by
  obtain ⟨x0,y0,u,v,an,rfl,rfl,h1,h2,h3,h4,h5⟩:=h.cons_inv;cases i with
  | zero =>
   cases hi
   match c,hc with
   | 0,hc=>cases hc;exact h1
   | 1,hc=>cases hc;exact h2
   | c+2,hc=>simp at hc
  | succ i =>have:=h5.get rest i e c x (by simpa using hi) hc;rw[show (i+1) * 2+c=(i * 2+c)+1+1 by omega];simpa using this
def wu.of {R:AV->Value->Prop}:∀ {es:List (List AV)} {cs:List Value},es.length * 2<=cs.length->(∀ e∈es,e.length=2)->(∀ j,j < es.length * 2->(cs.getD j undef).oneCell'=true) ->
  (∀ (i:Nat) (e:List AV) (c:Nat) (x:AV),es[i]? = some e->e[c]? = some x->R x (cs.getD (i * 2+c) undef))->wu R es (cs.take (es.length * 2))
 | [],cs,h1,h2,h3,h4=>by simp[wu]
 | e :: es,cs,h1,h2,h3,h4=>by
  simp only[AK] at h1
  match cs,h1 with
  | [],h1=>simp at h1
  | [u],h1=>simp at h1;omega
  | u :: v :: cs,h1 =>
   obtain ⟨x,y,rfl⟩:∃ x y,e=[x,y]:=by
    have:=h2 e Ah
    match e,this with
    | [x,y],_=>exact ⟨x,y,rfl⟩
   have k3:∀ j,j < es.length * 2->(cs.getD j undef).oneCell'=true:=fun j hj=>(by have:=h3 (j+1+1) (by simp only[AK];omega);simpa using this);have k4:∀ (i:Nat) (e:List AV) (c:Nat) (x:AV),es[i]? = some e->e[c]? = some x->R x (cs.getD (i * 2+c) undef):=fun i e c z hi hc=>(by have:=h4 (i+1) e c z (by simpa using hi) hc;rw[show (i+1) * 2+c=(i * 2+c)+1+1 by omega] at this;simpa using this);have:=wu.of (R:=R) (es:=es) (cs:=cs) (by simp only[AK] at h1;omega) (fun e he=>h2 e (Ad _ he)) k3 k4;rw[show ([x,y] :: es).length * 2=es.length * 2+2 by simp only[AK];omega];refine ⟨?_, ?_, ?_, ?_,this⟩
   ·simpa using h4 0 [x,y] 0 x rfl rfl
   ·simpa using h4 0 [x,y] 1 y rfl rfl
   ·simpa using h3 0 (by simp)
   ·simpa using h3 1 (by simp only[AK];omega)
def qF {P:Program} (w:World) (b o:Nat) (el:TypeId) (cur:Array Value) (vs:List Value) (hb:w.heap[b]? = some (.cells cur el (0,0))) (bd:o+vs.length<=cur.size) (h1:∀ v∈vs,v.oneCell'=true) :
  w.setCells b o vs=w.setRow b (cur.toList.take o++vs++cur.toList.drop (o+vs.length)).toArray:=by
 have eI:=run_storeCells_at P b o el vs 0 cur w hb (by simpa using bd) h1;have hc:∀ j,j < vs.length->(w.cell? ⟨b,o+0+j,none⟩).isSome=true:=fun j hj=>by
  have:o+j < cur.size:=by omega
  simp[World.cell?,hb,this]
 have hf:∀ j,j < vs.length->w.frozen? ⟨b,o+0+j,none⟩=false:=fun j hj=>(by simp[World.frozen?,hb]);have lX:=run_storeCells_cells (P:=P) b o vs 0 w hc hf h1;rw[lX] at eI;simp only[Bo,Result.ok.injEq] at eI;exact eI.2
section
variable {S:Seat} {A:Nat->Prop} {w:World} {ι:Nat->Option Nat}
def zct {b?:Option Nat} {es:List (List AV)} {v:Value} (h:z7 S A w b? 2 es v) :
  (b? = none∧es=[]∧v=.slice none 0 0)∨∃ b cap vs el,b? = some b∧v=.slice (some ⟨b,0,none⟩) es.length cap∧es.length<=cap∧cap<=maxLen∧w.heap[b]? = some (.cells vs el (0,0))∧cap * 2<=vs.size∧wu (VR0 S A w) es (vs.toList.take (es.length * 2)):=by
 obtain ⟨h0,h1 | ⟨b,cap,vs,el,h1,h2,h3,h4,h5,h6,h7,h8⟩⟩:=h
 ·exact .inl h1
 ·refine .inr ⟨b,cap,vs,el,h1,h2,h3,h4,h5,h6,wu.of (by rw[Ba];exact AH (Az _ h3) h6) h0 (fun j hj => ?_) fun i e c x hi hc => ?_⟩
  ·have:=h7 j hj;simpa[Aj,List.getD] using this
  ·have:=h8 i e c x hi hc;simpa[Aj,List.getD] using this
def wY {args:List AV} {vs:Array Value} {w':World} {es:List (List AV)} {pre rest:List Value} {cur:Array Value} {el:TypeId} {nb cap:Nat}
  (hA:∀ b,A b->b < w.heap.size) (hι:∀ i b,ι i=some b->¬ A b) (oQ:nb=w.heap.size∨ι 0=some nb) (hk:KeepO (qI ι) w w') (aq:nb < w'.heap.size) (hb:w'.heap[nb]? = some (.cells cur el (0,0))) (hc:cur.toList=pre++rest)
  (hr:wu (VR0 S A w) es pre) (h1:es.length<=cap) (h2:cap<=maxLen) (h3:cap * 2<=cur.size) :
  zgE S A (jO ι []) (zbC S args ι vs w w' []) w w' (.own 2 es) (.slice (some ⟨nb,0,none⟩) es.length cap):=by
 have hAn:∀ b,A b->nb≠b:=fun b hb e=>by
  subst e;rcases oQ with e | e
  ·have:=hA nb hb;omega
  ·exact hι _ _ e hb
 have aZ:∀ j,cur.getD j undef=(pre++rest).getD j undef:=fun j=>(by rw[← hc];simp[Aj,List.getD]);have hβ:∀ i b,(if i=0 then some nb else none)=some b->i=0∧b=nb:=fun i b h=>by
  split at h
  ·rename_i e;cases h;exact ⟨e,rfl⟩
  ·cases h
 refine ⟨fun i=>if i=0 then some nb else none,fun i b ig => ?_,fun i j b hi hj=>(hβ i b hi).1.trans (hβ j b hj).1.symm,(fun i es z bf hm=>by cases hm), ?_⟩
 ·obtain ⟨_,rfl⟩:=hβ i b ig;refine ⟨?_,aq⟩;rcases oQ with e | e
  ·exact .inl (by omega)
  ·exact .inr ⟨0,e,fun es=>by simp⟩
 ·show z7 S _ w' (some nb) 2 es _;refine ⟨hr.len2,.inr ⟨nb,cap,cur,el,rfl,rfl,h1,h2,hb,h3,fun j hj => ?_,fun i e c x hi dV => ?_⟩⟩
  ·rw[aZ];have hl:=hr.length;have:(pre++rest).getD j undef=pre[j]:=by rw[AF,AM (by omega),Ac (by omega)];rfl
   rw[this];exact hr.one _ (Be _)
  ·rw[aZ];have ew:∀ b,A b->¬ qI ι b:=fun b ay ⟨k,e⟩=>hι _ _ e ay;exact (hr.get rest i e c x hi dV).mono (fun b ay=>⟨.inl (.inl ay),AD (hA b ay) hk.size,fun k e=>hAn _ ay (hβ k b e).2.symm⟩) fun b ay=>hk.block b (hA b ay) (ew b ay)
def jf {b:Nat} {new:Array Value} (h:ι 0=some b):KeepO (qI ι) w (w.setRow b new) :=
 ⟨rfl,rfl,rfl,by rw[size_setRow];exact AO _,fun k _ hk=>setRow_other w b k new fun e=>hk ⟨0,e ▸ h⟩⟩
def ju:KeepO (qI ι) w w.drew:=⟨rfl,rfl,rfl,AO _,fun _ _ _=>rfl⟩
def jZ {O:Nat->Prop} {o:Obj}:KeepO O w (w.alloc o):=⟨rfl,rfl,rfl,by simp,fun k hk _=>by first | exact heap_alloc_old w _ k hk | exact heap_alloc_old w _ hk⟩
def wM {w1:World} {b:Nat} {new:Array Value} {O:Nat->Prop} (h:w.heap.size<=b) (hk:KeepO O w w1):KeepO O w (w1.setRow b new) :=
 ⟨hk.os,hk.tape,hk.output,by rw[size_setRow];exact hk.size,fun k au hO=>by rw[setRow_other w1 b k new (by omega)];exact hk.block k au hO⟩
def ziV {L cs vs:List Value} {i n m:Nat} (hi:i<=n) (aj:cs=L.take (n * 2)) (hl:(n+m) * 2<=L.length) (bR:vs.length=m * 2) (L1:List Value) (h1:L1=L.take ((i+m) * 2)++cs.drop (i * 2)++L.drop ((i+m) * 2+(cs.drop (i * 2)).length)) :
  L1.take (i * 2)++vs++L1.drop (i * 2+vs.length)=(cs.take (i * 2)++vs++cs.drop (i * 2))++L.drop ((i+m) * 2+(cs.drop (i * 2)).length):=by
 have e1:L1.take (i * 2)=cs.take (i * 2):=(by rw[h1,aj,AB,List.take_append_of_le_length (by simp;omega),Cp,Cp];congr 1;omega);have e2:L1.drop (i * 2+vs.length)=cs.drop (i * 2)++L.drop ((i+m) * 2+(cs.drop (i * 2)).length):=(by rw[h1,AB];exact List.drop_left' (by simp;omega));rw[e1,e2];simp[AB]
def ins_realM {ρ:Ren} {zc:Array Value} (L:InsL S.P ρ zc) {es:List (List AV)} {e:List AV} {i:Nat} (hi:i<=es.length) (al:es.length+1<=wD) :
  zeg S (ρ.f 22) [.own 2 es,.v (.int .i64 i),.own 2 [e]] (.own 2 (es.take i++[e]++es.drop i)) []:=by
 intro A w vs ι hl hA hι hargs;have hA0:=hA.1;have hιA:∀ i b,ι i=some b->¬ A b:=fun i b hb=>(hι.1 i b hb).2.2.1;have hιw:∀ i b,ι i=some b->b < w.heap.size:=fun i b hb=>(hι.1 i b hb).2.1;have h0:z7 S A w (ι 0) 2 es (vs.getD 0 undef):=hargs 0 _ rfl;have h1:VR0 S A w (.v (.int .i64 i)) (vs.getD 1 undef):=(hargs 1 (.v (.int .i64 i)) rfl).2;have h2:z7 S A w (ι 2) 2 [e] (vs.getD 2 undef):=hargs 2 _ rfl;obtain ⟨x0,x1,x2,rfl⟩:∃ x0 x1 x2,vs=#[x0,x1,x2]:=by
  obtain ⟨l⟩:=vs
  match l,hl with
  | [x0,x1,x2],_=>exact ⟨x0,x1,x2,rfl⟩
 obtain rfl:x1=.int .i64 i:=VR.v_inv (σ:=fun _=>none) (.of0 h1);rcases zct h2 with ⟨_,h,_⟩ | ⟨vb,vc,vvs,vel,v1,v2,v3,v4,v5,v6,v7⟩
 ·cases h
 obtain rfl:x2=.slice (some ⟨vb,0,none⟩) 1 vc:=v2;have aO:(vvs.toList.take 2).length=1 * 2:=v7.length;have bM:∀ v∈vvs.toList.take 2,v.oneCell'=true:=v7.one;have bR:∀ j v,(vvs.toList.take 2)[j]? = some v->w.cell? ⟨vb,0+j,none⟩=some v:=fun j v hj=>by
  rw[CB] at hj;split at hj
  ·rw[Bh] at hj;simpa[World.cell?,v5] using hj
  ·cases hj
 have v7:wu (VR0 S A w) [e] (vvs.toList.take 2):=v7;have cg:(es.take i++[e]++es.drop i).length=es.length+1:=by simp;omega
 have dP:es.length+1<=maxLen:=by unfold maxLen;unfold wD at al;omega
 have dw:(es.length+1) * 32<=140737488355328:=by unfold wD at al;omega
 rcases zct h0 with ⟨b1,b2,b3⟩ | ⟨b,cap,us,el,b1,b2,b3,b4,b5,b6,b7⟩
 ·obtain rfl:x0=.slice none 0 0:=b3;subst b2;obtain rfl:i=0:=by simpa using hi
  refine (zbQ L none 0 0 vb 0 1 vc [] (vvs.toList.take 2) w (by omega) (by omega) (by omega) dw rfl aO (fun _=>rfl) (fun a h=>by cases h) bR bM).mono ?_;rintro ex w' ⟨rfl,rfl⟩;have ba:=grownCap_ge w (0+1) 0 (ρ.t 9);have aL:=grownCap_le_maxLen w (0+1) 0 (ρ.t 9) dP;refine ⟨_,rfl,ju.trans jZ, ?_⟩;refine wY (pre:=vvs.toList.take 2) (rest:=(Builtin.zeroCells zc (grownCap w (0+1) 0 (ρ.t 9) - (0+1))).toList) hA0 hιA (.inl rfl) (ju.trans jZ) (by simp) (heap_alloc_new w.drew _) (by simp) v7 (by simpa using ba) aL ?_;simp only[BW,A9,AA,aO,size_zeroCells,L.z2];omega
 ·obtain rfl:x0=.slice (some ⟨b,0,none⟩) es.length cap:=b2;generalize dv:us.toList.take (es.length * 2)=cs at b7;have aM:=b7.length;have aY:=b7.one;have lS:es.length * 2<=us.size:=AH (Az _ b3) b6;have aj:∀ j v,cs[j]? = some v->w.cell? ⟨b,0+j,none⟩=some v:=fun j v hj=>by
   rw[← dv,CB] at hj;split at hj
   ·rw[Bh] at hj;simpa[World.cell?,b5] using hj
   ·cases hj
  have aV:∀ j,j < us.size->(w.cell? ⟨b,j,none⟩).isSome=true:=fun j hj=>by simp[World.cell?,b5,hj]
  have fv:∀ j,w.frozen? ⟨b,j,none⟩=false:=fun j=>by simp[World.frozen?,b5]
  have kO:vb≠b:=fun h=>(by have:=hι.2 2 0 vb v1 (h ▸ b1);omega);have bc:wu (VR0 S A w) (es.take i++[e]++es.drop i) (cs.take (i * 2)++vvs.toList.take 2++cs.drop (i * 2)):=((b7.take i).append v7).append (b7.drop i);have aL:cap<=9223372036854775807:=by unfold maxLen at b4;omega
  by_cases hr:es.length+1<=cap
  ·have bd:(es.length+1) * 2<=us.size:=AH (Az _ hr) b6;by_cases cq:i=es.length
   ·subst cq;refine (zfY L b 0 es.length cap vb 0 1 vc (vvs.toList.take 2) w (by omega) hr aL aO (fun j hj=>aV _ (by omega)) (fun j hj=>fv _) bR bM).mono ?_;rintro ex w' ⟨rfl,rfl⟩;rw[qF (P:=S.P) w b (0+es.length * 2) el us _ b5 (by rw[aO];omega) bM];generalize aT:(us.toList.take (0+es.length * 2)++vvs.toList.take 2++us.toList.drop (0+es.length * 2+(vvs.toList.take 2).length))=nw;have aG:nw.length=us.size:=by rw[← aT];simp only[AX,aO,AY,Bd,Ba];omega
    refine ⟨_,rfl,jf b1, ?_⟩;have hd:=wY (args:=[.own 2 es,.v (.int .i64 es.length),.own 2 [e]]) (vs:=#[.slice (some ⟨b,0,none⟩) es.length cap,.int .i64 es.length,.slice (some ⟨vb,0,none⟩) 1 vc]) (pre:=cs.take (es.length * 2)++vvs.toList.take 2++cs.drop (es.length * 2)) (rest:=us.toList.drop (0+es.length * 2+(vvs.toList.take 2).length)) (cur:=nw.toArray) (cap:=cap) (w':=w.setRow b nw.toArray) hA0 hιA (.inr b1) (jf b1) (by rw[size_setRow];exact hιw 0 b b1) (setRow_heap w b us _ el _ b5) ?_ bc (by rw[cg];exact hr) b4 (by rw[A9,aG];exact b6)
    ·rw[cg] at hd;exact hd
    ·have e3:cs.take (es.length * 2)=cs:=BL (by omega);have e4:cs.drop (es.length * 2)=[]:=BM (by omega);rw[← aT,e3,e4,AL,dv];simp
   ·have aq:i < es.length:=by omega
    refine (ins_shift L b 0 es.length cap i vb 0 1 vc cs (vvs.toList.take 2) w aq (by omega) hr aL kO aM aO aj (fun j hj=>aV _ (by omega)) (fun j hj=>fv _) bR aY bM vel el vvs.size us.size (by simp[World.shape?,v5]) (by simp[World.shape?,b5]) (by omega) (by simp[World.frozen?,v5]) (by simp[World.frozen?,v5])).mono ?_;rintro ex w' ⟨rfl,rfl⟩;have dR:(cs.drop (i * 2)).length=(es.length - i) * 2:=by rw[Bd,aM];omega
    have cQ:∀ v∈cs.drop (i * 2),v.oneCell'=true:=fun v hv=>aY v (Bk hv);rw[qF (P:=S.P) w.drew b (0+(i+1) * 2) el us _ b5 (by rw[dR];omega) cQ];generalize bE:(us.toList.take (0+(i+1) * 2)++cs.drop (i * 2)++us.toList.drop (0+(i+1) * 2+(cs.drop (i * 2)).length))=bB;have cH:bB.length=us.size:=by rw[← bE];simp only[AX,dR,AY,Bd,Ba];omega
    have cE:=setRow_heap w.drew b us bB.toArray el (0,0) b5;rw[qF (P:=S.P) _ b (0+i * 2) el bB.toArray _ cE (by rw[aO,A9,cH];omega) bM];generalize bN:(bB.toArray.toList.take (0+i * 2)++vvs.toList.take 2++bB.toArray.toList.drop (0+i * 2+(vvs.toList.take 2).length))=dL;have eH:dL.length=us.size:=by rw[← bN];simp only[AX,aO,AY,Bd,cH];omega
    have hk:KeepO (qI ι) w ((w.drew.setRow b bB.toArray).setRow b dL.toArray):=(ju.trans (jf b1)).trans (jf b1);refine ⟨_,rfl,hk, ?_⟩;have hd:=wY (args:=[.own 2 es,.v (.int .i64 i),.own 2 [e]]) (vs:=#[.slice (some ⟨b,0,none⟩) es.length cap,.int .i64 i,.slice (some ⟨vb,0,none⟩) 1 vc]) (pre:=cs.take (i * 2)++vvs.toList.take 2++cs.drop (i * 2)) (rest:=us.toList.drop ((i+1) * 2+(cs.drop (i * 2)).length)) (cur:=dL.toArray) (cap:=cap) (w':=(w.drew.setRow b bB.toArray).setRow b dL.toArray) hA0 hιA (.inr b1) hk (by rw[size_setRow,size_setRow];exact hιw 0 b b1) (setRow_heap _ b _ _ el _ cE) ?_ bc (by rw[cg];exact hr) b4 (by rw[A9,eH];exact b6)
    ·rw[cg] at hd;exact hd
    ·rw[← bN];simp only[AL] at bE ⊢;exact ziV (L:=us.toList) (m:=1) (by omega) dv.symm (by rw[Ba];exact bd) aO bB bE.symm
  ·by_cases cq:i=es.length
   ·subst cq;refine (zbQ L (some ⟨b,0,none⟩) es.length cap vb 0 1 vc cs (vvs.toList.take 2) w (by omega) b3 (by omega) dw aM aO (fun h=>by cases h) (fun a ha j v hj=>by cases ha;rw[Addr.add_lit];exact aj j v hj) bR bM).mono ?_;rintro ex w' ⟨rfl,rfl⟩;have ba:=grownCap_ge w (es.length+1) cap (ρ.t 9);have aL:=grownCap_le_maxLen w (es.length+1) cap (ρ.t 9) dP;generalize grownCap w (es.length+1) cap (ρ.t 9)=G at ba aL;refine ⟨_,rfl,ju.trans jZ, ?_⟩
    have hd:=wY (args:=[.own 2 es,.v (.int .i64 es.length),.own 2 [e]]) (vs:=#[.slice (some ⟨b,0,none⟩) es.length cap,.int .i64 es.length,.slice (some ⟨vb,0,none⟩) 1 vc]) (pre:=cs.take (es.length * 2)++vvs.toList.take 2++cs.drop (es.length * 2)) (rest:=(Builtin.zeroCells zc (G - (es.length+1))).toList)
     (cur:=(cs++vvs.toList.take 2).toArray++Builtin.zeroCells zc (G - (es.length+1))) (cap:=G) (w':=w.drew.alloc (.cells ((cs++vvs.toList.take 2).toArray++Builtin.zeroCells zc (G - (es.length+1))) (ρ.t 9))) hA0 hιA (.inl rfl) (ju.trans jZ) (by simp) (heap_alloc_new w.drew _) ?_ bc (by rw[cg];exact ba) aL ?_
    ·rw[cg] at hd;exact hd
    ·have e3:cs.take (es.length * 2)=cs:=BL (by omega);have e4:cs.drop (es.length * 2)=[]:=BM (by omega);rw[e3,e4];simp
    ·simp only[BW,A9,AX,aM,aO,size_zeroCells,L.z2];omega
   ·have aq:i < es.length:=by omega
    refine (ins_grow L b 0 es.length cap i vb 0 1 vc cs (vvs.toList.take 2) w aq (by omega) b3 (by omega) dw aM aO aj bR aY bM).mono ?_;rintro ex w' ⟨rfl,rfl⟩;have ba:=grownCap_ge w (es.length+1) cap (ρ.t 9);have aL:=grownCap_le_maxLen w (es.length+1) cap (ρ.t 9) dP;generalize grownCap w (es.length+1) cap (ρ.t 9)=G at ba aL;generalize fI:(cs.take (i * 2)).toArray++Builtin.zeroCells zc (es.length+1 - i)++Builtin.zeroCells zc (G - (es.length+1))=ROW;have l8:ROW.size=G * 2:=(by rw[← fI];simp only[BW,A9,AY,aM,size_zeroCells,L.z2];omega);have hrt:ROW.toList.take (i * 2)=cs.take (i * 2):=(by rw[← fI];simp only[Array.toList_append,AB];exact Cj (by rw[AY,aM];omega));have dR:(cs.drop (i * 2)).length=(es.length - i) * 2:=by rw[Bd,aM];omega
    have cQ:∀ v∈cs.drop (i * 2),v.oneCell'=true:=fun v hv=>aY v (Bk hv);have bV:((w.alloc (.cells ROW (ρ.t 9))).drew).heap[w.heap.size]? = some (.cells ROW (ρ.t 9) (0,0)):=heap_alloc_new w _;rw[qF (P:=S.P) _ w.heap.size (i * 2) (ρ.t 9) ROW _ bV (by rw[aO];omega) bM];generalize bE:(ROW.toList.take (i * 2)++vvs.toList.take 2++ROW.toList.drop (i * 2+(vvs.toList.take 2).length))=bB;have cH:bB.length=ROW.size:=by rw[← bE];simp only[AX,aO,AY,Bd,Ba];omega
    have cE:(((w.alloc (.cells ROW (ρ.t 9))).drew.setRow w.heap.size bB.toArray).drew).heap[w.heap.size]? = some (.cells bB.toArray (ρ.t 9) (0,0)):=setRow_heap _ w.heap.size ROW bB.toArray (ρ.t 9) (0,0) bV;rw[qF (P:=S.P) _ w.heap.size ((i+1) * 2) (ρ.t 9) bB.toArray _ cE (by rw[dR,A9,cH];omega) cQ];generalize bN:(bB.toArray.toList.take ((i+1) * 2)++cs.drop (i * 2)++bB.toArray.toList.drop ((i+1) * 2+(cs.drop (i * 2)).length))=dL;have eH:dL.length=ROW.size:=by rw[← bN];simp only[AX,dR,AY,Bd,cH];omega
    have bw:KeepO (qI ι) w ((w.alloc (.cells ROW (ρ.t 9))).drew):=jZ.trans ju;have gv:KeepO (qI ι) w (((w.alloc (.cells ROW (ρ.t 9))).drew.setRow w.heap.size bB.toArray).drew):=(wM (AO _) bw).trans ju;have hk:=wM (new:=dL.toArray) (b:=w.heap.size) (AO _) gv;refine ⟨_,rfl,hk, ?_⟩
    have hd:=wY (args:=[.own 2 es,.v (.int .i64 i),.own 2 [e]]) (vs:=#[.slice (some ⟨b,0,none⟩) es.length cap,.int .i64 i,.slice (some ⟨vb,0,none⟩) 1 vc]) (pre:=cs.take (i * 2)++vvs.toList.take 2++cs.drop (i * 2)) (rest:=bB.drop ((i+1) * 2+(cs.drop (i * 2)).length)) (cur:=dL.toArray) (cap:=G) (nb:=w.heap.size) (el:=ρ.t 9)
     hA0 hιA (.inl rfl) hk (by rw[size_setRow];exact (Aa.1 (by simpa using cE)).1) (setRow_heap _ w.heap.size _ _ (ρ.t 9) _ cE) ?_ bc (by rw[cg];exact ba) aL (by rw[A9,eH,l8];exact AO _)
    ·rw[cg] at hd;exact hd
    ·have e5:bB.take ((i+1) * 2)=cs.take (i * 2)++vvs.toList.take 2:=(by rw[← bE,hrt];exact Cj (by rw[AX,AY,aM,aO];omega));rw[← bN];simp only[e5]
def del_realM {ρ:Ren} {zc:Array Value} (L:DelL S.P ρ zc) {es:List (List AV)} {i j:Nat} (mB:i < j) (hj:j<=es.length) :
  zeg S (ρ.f 45) [.own 2 es,.v (.int .i64 i),.v (.int .i64 j)] (.own 2 (es.take i++es.drop j)) []:=by
 intro A w vs ι hl hA hι hargs;have hA0:=hA.1;have hιA:∀ i b,ι i=some b->¬ A b:=fun i b hb=>(hι.1 i b hb).2.2.1;have hιw:∀ i b,ι i=some b->b < w.heap.size:=fun i b hb=>(hι.1 i b hb).2.1;have h0:z7 S A w (ι 0) 2 es (vs.getD 0 undef):=hargs 0 _ rfl;have h1:VR0 S A w (.v (.int .i64 i)) (vs.getD 1 undef):=(hargs 1 (.v (.int .i64 i)) rfl).2;have h2:VR0 S A w (.v (.int .i64 j)) (vs.getD 2 undef):=(hargs 2 (.v (.int .i64 j)) rfl).2;obtain ⟨x0,x1,x2,rfl⟩:∃ x0 x1 x2,vs=#[x0,x1,x2]:=by
  obtain ⟨l⟩:=vs
  match l,hl with
  | [x0,x1,x2],_=>exact ⟨x0,x1,x2,rfl⟩
 obtain rfl:x1=.int .i64 i:=VR.v_inv (σ:=fun _=>none) (.of0 h1);obtain rfl:x2=.int .i64 j:=VR.v_inv (σ:=fun _=>none) (.of0 h2);have cg:(es.take i++es.drop j).length=i+(es.length - j):=by simp;omega
 rcases zct h0 with ⟨b1,b2,b3⟩ | ⟨b,cap,us,el,b1,b2,b3,b4,b5,b6,b7⟩
 ·subst b2;simp at hj;omega
 ·obtain rfl:x0=.slice (some ⟨b,0,none⟩) es.length cap:=b2;generalize dv:us.toList.take (es.length * 2)=cs at b7;have aM:=b7.length;have aY:=b7.one;have lS:es.length * 2<=us.size:=AH (Az _ b3) b6;have aj:∀ j v,cs[j]? = some v->w.cell? ⟨b,0+j,none⟩=some v:=fun j v hj=>by
   rw[← dv,CB] at hj;split at hj
   ·rw[Bh] at hj;simpa[World.cell?,b5] using hj
   ·cases hj
  have fv:∀ j,w.frozen? ⟨b,j,none⟩=false:=fun j=>by simp[World.frozen?,b5]
  have aL:cap<=9223372036854775807:=by unfold maxLen at b4;omega
  have bc:wu (VR0 S A w) (es.take i++es.drop j) (cs.take (i * 2)++cs.drop (j * 2)):=(b7.take i).append (b7.drop j);refine (del_walk L b 0 es.length cap i j cs w mB hj b3 aL aM aj (fun k _=>fv _) aY).mono ?_;rintro ex w' ⟨rfl,rfl⟩;have dR:(cs.drop (j * 2)).length=(es.length - j) * 2:=by rw[Bd,aM];omega
  have cQ:∀ v∈cs.drop (j * 2),v.oneCell'=true:=fun v hv=>aY v (Bk hv);rw[qF (P:=S.P) w.drew b (0+i * 2) el us _ b5 (by rw[dR];omega) cQ];generalize bE:(us.toList.take (0+i * 2)++cs.drop (j * 2)++us.toList.drop (0+i * 2+(cs.drop (j * 2)).length))=bB;have cH:bB.length=us.size:=by rw[← bE];simp only[AX,dR,AY,Bd,Ba];omega
  have cE:=setRow_heap w.drew b us bB.toArray el (0,0) b5;have kN:(Builtin.zeroCells zc (es.length - (i+(es.length - j)))).toList.length=(es.length - (i+(es.length - j))) * 2:=by rw[Ba,size_zeroCells,L.z2]
  rw[qF (P:=S.P) _ b (0+(i+(es.length - j)) * 2) el bB.toArray _ cE (by rw[kN,A9,cH];omega) fun u hu=>L.z1 u (zaJ hu)];generalize hzr:(Builtin.zeroCells zc (es.length - (i+(es.length - j)))).toList=zs at kN;generalize bN:(bB.toArray.toList.take (0+(i+(es.length - j)) * 2)++zs++bB.toArray.toList.drop (0+(i+(es.length - j)) * 2+zs.length))=dL;have eH:dL.length=us.size:=by rw[← bN];simp only[AX,kN,AY,Bd,cH];omega
  have hk:KeepO (qI ι) w ((w.drew.setRow b bB.toArray).setRow b dL.toArray):=(ju.trans (jf b1)).trans (jf b1);refine ⟨_,rfl,hk, ?_⟩;have hd:=wY (args:=[.own 2 es,.v (.int .i64 i),.v (.int .i64 j)]) (vs:=#[.slice (some ⟨b,0,none⟩) es.length cap,.int .i64 i,.int .i64 j]) (pre:=cs.take (i * 2)++cs.drop (j * 2)) (rest:=zs++bB.drop ((i+(es.length - j)) * 2+zs.length)) (cur:=dL.toArray) (cap:=cap) (w':=(w.drew.setRow b bB.toArray).setRow b dL.toArray) hA0 hιA (.inr b1) hk (by rw[size_setRow,size_setRow];exact hιw 0 b b1) (setRow_heap _ b _ _ el _ cE) ?_ bc (by rw[cg];omega) b4 (by rw[A9,eH];exact b6)
  ·rw[cg] at hd;exact hd
  ·have e5:bB.take ((i+(es.length - j)) * 2)=cs.take (i * 2)++cs.drop (j * 2):=(by rw[← bE,← dv];simp only[AL,Cp];rw[Nat.min_eq_left (by omega)];refine Cj ?_;rw[dv,AX,dR,AY,Ba];omega);rw[← bN];simp only[AL,e5,AB]
end
def InsAt (S:Seat) (id:Nat):Prop:=∀ g,qh g S.fns=some id->∃ ρ zc,ρ.f 22=g∧InsL S.P ρ zc
def DelAt (S:Seat) (id:Nat):Prop:=∀ g,qh g S.fns=some id->∃ ρ zc,ρ.f 45=g∧DelL S.P ρ zc
def P78 (es:List Entry) (i:Int) (ys:List Entry):Option (List Entry) :=
 ck (decide (0<=i∧i<=((List.length es:Nat):Int)∧List.length es+1<=wD∧List.length ys=1)) (some (es.take i.toNat++ys++es.drop i.toNat))
def k78:CSpec:=⟨78,[.own .entry,.int,.own .entry],.own .entry,fun x=>P78 x.1 x.2.1 x.2.2,false,[1000,1002]⟩
def r78a {S:Seat} (h:InsAt S 78) (es:List Entry) (i:Int) (ys y:List Entry) (hy:P78 es i ys=some y):(za S).ret 78 [.own 2 (es.map Ty.entry.cells),.v (.int .i64 i),.own 2 (ys.map Ty.entry.cells)] (.own 2 (y.map Ty.entry.cells)) []:=by
 obtain ⟨h1,h2⟩:=qg hy;obtain ⟨h0,hi,hr,hl⟩:=of_decide_eq_true h1;obtain rfl:=Option.some.inj h2;obtain ⟨k,rfl⟩:∃ k:Nat,i=k:=⟨i.toNat,by omega⟩;obtain ⟨e,rfl⟩:∃ e,ys=[e]:=by
  match ys,hl with
  | [e],_=>exact ⟨e,rfl⟩
 intro g hg;obtain ⟨ρ,zc,rfl,L⟩:=h g hg;have:=ins_realM (S:=S) L (es:=es.map Ty.entry.cells) (e:=Ty.entry.cells e) (i:=k) (by simpa using hi) (by simpa using hr);have e1:((es.take (Int.toNat k)++[e]++es.drop (Int.toNat k)).map Ty.entry.cells)=(es.map Ty.entry.cells).take k++[Ty.entry.cells e]++(es.map Ty.entry.cells).drop k:=(by simp[Cc,Cd]);show wo S _ _ (.own 2 ((es.take (Int.toNat k)++[e]++es.drop (Int.toNat k)).map Ty.entry.cells)) [];rw[e1];exact this.up
def r78 {S:Seat} (h:InsAt S 78):Rt S k78:=fun x y hy=>r78a h x.1 x.2.1 x.2.2 y hy
def P77 (es:List Entry) (i j:Int):Option (List Entry) :=
 ck (decide (0<=i∧i < j∧j<=((List.length es:Nat):Int))) (some (es.take i.toNat++es.drop j.toNat))
def k77:CSpec:=⟨77,[.own .entry,.int,.int],.own .entry,fun x=>P77 x.1 x.2.1 x.2.2,false,[1000]⟩
def r77a {S:Seat} (h:DelAt S 77) (es:List Entry) (i j:Int) (y:List Entry) (hy:P77 es i j=some y):(za S).ret 77 [.own 2 (es.map Ty.entry.cells),.v (.int .i64 i),.v (.int .i64 j)] (.own 2 (y.map Ty.entry.cells)) []:=by obtain ⟨h1,h2⟩:=qg hy;obtain ⟨h0,hi,hj⟩:=of_decide_eq_true h1;obtain rfl:=Option.some.inj h2;obtain ⟨k,rfl⟩:∃ k:Nat,i=k:=⟨i.toNat,by omega⟩;obtain ⟨m,rfl⟩:∃ m:Nat,j=m:=⟨j.toNat,by omega⟩;intro g hg;obtain ⟨ρ,zc,rfl,L⟩:=h g hg;have:=del_realM (S:=S) L (es:=es.map Ty.entry.cells) (i:=k) (j:=m) (by omega) (by simpa using hj);have e1:((es.take (Int.toNat k)++es.drop (Int.toNat m)).map Ty.entry.cells)=(es.map Ty.entry.cells).take k++(es.map Ty.entry.cells).drop m:=(by simp[Cc,Cd]);show wo S _ _ (.own 2 ((es.take (Int.toNat k)++es.drop (Int.toNat m)).map Ty.entry.cells)) [];rw[e1];exact this.up
def r77 {S:Seat} (h:DelAt S 77):Rt S k77:=fun x y hy=>r77a h x.1 x.2.1 x.2.2 y hy
end Ab
