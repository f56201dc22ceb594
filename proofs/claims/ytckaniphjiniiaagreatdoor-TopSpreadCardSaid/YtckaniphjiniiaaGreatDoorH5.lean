import Derived.Test.YtckaniphjiniiaaGreatDoorHF
set_option linter.all false
noncomputable section
namespace Ab
open Go
section
open Go Go.RowKit
def nilE:TV->Bool
 | .e .nil=>true
 | .k .nilIface=>true
 | _=>false
def kNew (e:AExit) (s:TSt):Option (List Dim×List Entry×List (List (Option (List Node)))×List Bool×List Cell) :=
 match e,s.ev (.t 4),nilE (s.ev (.t 5)) with
 | .ret,.pv r 0,true=>match look r .gone s.hp with
  | .var [.sl .dim o,.sl .entry l,c2,.lw s3 v3,.lw s4 v4]=>match look s3 .gone s.hp,look s4 .gone s.hp with
   | .row w3 .bool kn,.row w4 .cell cl=>match Nat.beq v3 w3,Nat.beq v4 w4 with
    | true,true=>match c2 with
     | .nl=>some (o,l,[],kn,cl)
     | .lw s2 v2=>match look s2 .gone s.hp with
      | .row w2 (.sl (.ns .node)) f=>match Nat.beq v2 w2 with|true=>some (o,l,f,kn,cl)|false=>none
      | _=>none
     | _=>none
    | _,_=>none
   | _,_=>none
  | _=>none
 | _,_,_=>none
section
variable {S:Seat} {C:List CSpec}
def SRel.start {A:Nat->Prop} {w:World} {st:ASt} {tm:Array Value} (cy:st.hp=fun _=>none) (hA:(∀b,A b->b<w.heap.size)∧Inv S w) (ha:∀k,VR0 S A w (st.fr k) (tm.getD k undef)):SRel S A zml w A (fun _=>none) w st tm:=by
 refine⟨fun k=>.of0 (ha k),fun s blk hb => ?_,fun k s hs=>(jK (ha k) s hs).elim,fun s cs hs => ?_,fun s b hs => ?_,fun s s' b hs => ?_,hA.1,fun b hb=>.inl hb,.refl _ _,(fun s e he=>by cases he),fun b hb=>hb.elim,fun _ _ h=>h,hA.2⟩
 ·rw[cy] at hb;cases hb
 ·rw[cy] at hs;cases hs
 ·cases hs
 ·cases hs
def EndsR (S:Seat) (A:Nat->Prop) (fn:Func) (w:World) (r:AV):Exit->Act->World->Prop:=fun ex a w' =>
 (ex=.normal∨ex=.ret)∧a.defers=[]∧∃v,(results fn a.tmps).run S.P w'=.ok v w'∧KeepO S.jg w w'∧S.jn w'∧zdm S A w w' r v
def EndsR.body {A:Nat->Prop} {fn:Func} {w:World} {r:AV} {ex:Exit} {a:Act} {w':World} (h:EndsR S A fn w r ex a w') {R:Ending->World->Prop} (hR:∀v,KeepO S.jg w w'->S.jn w'->zdm S A w w' r v->R (.returned v) w'):bodyPost S.P fn R ex a w':=by
 obtain⟨q1,q2,v,k1,k2,k3,k4⟩:=h;rcases q1 with rfl|rfl
 ·exact⟨q2,v,k1,hR v k2 k3 k4⟩
 ·exact⟨q2,v,k1,hR v k2 k3 k4⟩
def keep_jg {A':Nat->Prop} {σ':Nat->Option Nat} {A:Nat->Prop} {w w2 w':World} {st:ASt} {tm:Array Value} (r2:RebR S w w2) (q4:SRel S A zml w2 A' σ' w' st tm):KeepO S.jg w w':=by have bE:=r2.keep q4.keep;exact⟨bE.os,bE.tape,bE.output,bE.size,fun k hk hn=>bE.block k hk fun e=>e.elim (fun e=>e) hn⟩
def zmf (hS:zZ S) (hC:zK S C) {fn:Func} {rc:Code} {f:TFunc} (cF:jF S fn.ntmps rc=some f.body.er) (aD:zd (zmG S.P) fn.results.toList=some f.res) (hm:f.muts=[]) {s0:TSt} (cy:s0.hp=[]) {rs:Sh} {y:rs.den} (h3:rs.ans=true) (h:f.runFrom C s0 rs=some y)
  {A:Nat->Prop} {w:World} {tm:Array Value} (hn:tm.size=fn.ntmps) (hA:(∀b,A b->b<w.heap.size)∧Inv S w) (hJ:JR S A (fun _=>False) w) (ha:∀k,VR0 S A w (s0.toA.fr k) (tm.getD k undef)):rc.wp S.P (EndsR S A fn w (encA rs y)) { tmps:=tm,defers:=[] } w:=by
 have du:s0.toA.hp=fun _=>none:=by funext k;simp[TSt.toA,cy,look,blk]
 refine ot hC hm (s0:=s0) (Q:=fun r=>rc.wp S.P (EndsR S A fn w r) { tmps:=tm,defers:=[] } w) (fun e s' r hex he hr => ?_) (fun a b c d=>wp_mono d ?_) (fun a b d=>wp_mono d ?_) h3 h
 ·rw[hm] at hr;refine wp_mono (Stm.wp (wX hS hex (.inr (zly hS)) cF ⟨w,.refl S w,hJ,SRel.start du hA ha⟩ hn)) ?_;rintro ex a w' ⟨q1,q2,q3,A',σ',w2,r2,j2,q4⟩;obtain⟨_,v,k1,k2⟩:=ziV q4 aD hr;refine⟨?_,q2,v,k1,keep_jg r2 q4,(q4.jpreA j2).jn,k2.same r2.size.symm⟩;subst q1;rcases he with rfl|rfl
  ·exact .inl rfl
  ·exact .inr rfl
 ·rintro ex e w' ⟨q1,q2,v,k1,k2,k3,β,hβ,ay,hp⟩;exact⟨q1,q2,v,k1,k2,k3,β,hβ,ay,zeh a b c hp⟩
 ·rintro ex e w' ⟨q1,q2,v,k1,k2,k3,β,hβ,ay,us,hv,hlen,hp⟩;refine⟨q1,q2,v,k1,k2,k3,β,hβ,ay,us,hv,by omega,fun i y hy => ?_⟩;obtain⟨x,hx⟩:=zL a hy;exact zhy (b i x y hx hy) (hp i x hx)
def SRel.startV {A:Nat->Prop} {w:World} {st:ASt} {tm:Array Value} {d b:Nat} {cs:List AV} {vs:Array Value} {el:TypeId} (cy:∀s,st.hp s=if s=d then some (.var cs) else none) (hb:w.heap[b]? = some (.cells vs el (0,0))) (an:cs.length<=vs.size)
  (hv:∀(i:Nat) (x:AV),cs[i]? = some x->VR0 S A w x (vs.getD i undef)) (hr:AV.refsL cs=[]) (nJ:¬A b) (hg:∀p∈S.globB,¬p=b) (hA:(∀b,A b->b<w.heap.size)∧Inv S w)
  (ha:∀k,VR0 S A w (st.fr k) (tm.getD k undef)∨(st.fr k=.pv d 0∧tm.getD k undef=.pointer (some ⟨b,0,none⟩))):SRel S A ⟨fun x=>x=b,fun _=>none⟩ w A (fun s=>if s=d then some b else none) w st tm:=by
 have aj:b<w.heap.size:=(Bs.1 hb).1;have hd:st.hp d≠none:=by rw[cy d,if_pos rfl];simp
 refine⟨fun k => ?_,fun s blk h => ?_,fun k s hs => ?_,fun s aJ h s' ae => ?_,fun s c hs => ?_,fun s s' c hs ae => ?_,hA.1,fun c hc=>.inl hc,.refl _ _,fun s e he=>(by cases he),fun c hc => ?_,fun p hp=>hg p hp,hA.2⟩
 ·rcases ha k with h|⟨h1,h2⟩
  ·exact .of0 h
  ·rw[h1,h2];exact .pv (if_pos rfl)
 ·rw[cy] at h;split at h
  ·rename_i e;subst e;cases h;exact⟨b,vs,el,if_pos rfl,hb,an,fun i x hx=>.of0 (hv i x hx)⟩
  ·cases h
 ·rcases ha k with h|⟨h1,h2⟩
  ·exact (jK h s hs).elim
  ·rw[h1] at hs;have:s=d:=by simpa[AV.refs] using hs
   rw[this];exact hd
 ·rw[cy] at h;split at h
  ·cases h;rw[hr] at ae;cases ae
  ·cases h
 ·by_cases e:s=d
  ·subst e;rw[if_pos rfl] at hs;cases hs;exact⟨hd,aj,nJ,.inr rfl⟩
  ·rw[if_neg e] at hs;cases hs
 ·by_cases e:s=d
  ·by_cases e':s'=d
   ·rw[e,e']
   ·rw[if_neg e'] at ae;cases ae
  ·rw[if_neg e] at hs;cases hs
 ·have hc:c=b:=hc;rw[hc];exact aj
def EndsV (S:Seat) (A:Nat->Prop) (fn:Func) (W w:World) (b:Nat) (r:AV):Exit->Act->World->Prop:=fun ex a w' =>
 (ex=.normal∨ex=.ret)∧a.defers=[]∧∃v,(results fn a.tmps).run S.P w'=.ok v w'∧KeepO (fun x=>x=b∨S.jg x) w w'∧S.jn w'∧zdm S A W w' r v
def EndsV.body {A:Nat->Prop} {fn:Func} {W w:World} {b:Nat} {r:AV} {ex:Exit} {a:Act} {w':World} (h:EndsV S A fn W w b r ex a w') {R:Ending->World->Prop} (hR:∀v,KeepO (fun x=>x=b∨S.jg x) w w'->S.jn w'->zdm S A W w' r v->R (.returned v) w'):bodyPost S.P fn R ex a w':=by
 obtain⟨q1,q2,v,k1,k2,k3,k4⟩:=h;rcases q1 with rfl|rfl
 ·exact⟨q2,v,k1,hR v k2 k3 k4⟩
 ·exact⟨q2,v,k1,hR v k2 k3 k4⟩
def zjS (hS:zZ S) (hC:zK S C) {fn:Func} {rc:Code} {f:TFunc} (cF:jF S fn.ntmps rc=some f.body.er) (aD:zd (zmG S.P) fn.results.toList=some f.res) (hm:f.muts=[]) {s0:TSt} {rs:Sh} {y:rs.den} (h3:rs.ans=true) (h:f.runFrom C s0 rs=some y)
  {A:Nat->Prop} {σ:Nat->Option Nat} {W w:World} {b:Nat} {tm:Array Value} (hn:tm.size=fn.ntmps) (hb:W.heap.size<=b) (hW:W.heap.size<=w.heap.size) (hJ:JR S A (fun x=>x=b) w) (du:SRel S A ⟨fun x=>x=b,fun _=>none⟩ w A σ w s0.toA tm) :
  rc.wp S.P (EndsV S A fn W w b (encA rs y)) { tmps:=tm,defers:=[] } w:=by
 refine ot hC hm (s0:=s0) (Q:=fun r=>rc.wp S.P (EndsV S A fn W w b r) { tmps:=tm,defers:=[] } w) (fun e s' r hex he hr => ?_) (fun a b c d=>wp_mono d ?_) (fun a b d=>wp_mono d ?_) h3 h
 ·rw[hm] at hr;refine wp_mono (Stm.wp (wX hS hex (.inr (zly hS)) cF ⟨w,.refl S w,hJ,du⟩ hn)) ?_;rintro ex a w' ⟨q1,q2,q3,A',σ',w2,r2,j2,q4⟩;have h2:=r2.size
  obtain⟨_,v,k1,k2⟩:=sK (A:=A) (w:=W) q4 (fun c hc=>⟨by
    rcases q4.Asub c hc with h|h|h
    ·exact .inl h
    ·exact .inr (by omega)
    ·have h:c=b:=h;exact .inr (by omega),q4.Alt c hc⟩) (fun s c hs=>⟨by
    rcases (q4.dom s c hs).2.2.2 with h|h
    ·omega
    ·have h:c=b:=h
     omega,(q4.dom s c hs).2.1⟩) aD hr
  have bE:=r2.keep q4.keep;refine⟨?_,q2,v,k1,⟨bE.os,bE.tape,bE.output,bE.size,fun k hk hn=>bE.block k hk hn⟩,(q4.jpreA j2).jn,k2⟩;subst q1;rcases he with rfl|rfl
  ·exact .inl rfl
  ·exact .inr rfl
 ·rintro ex e w' ⟨q1,q2,v,k1,k2,k3,β,hβ,ay,hp⟩;exact⟨q1,q2,v,k1,k2,k3,β,hβ,ay,zeh a b c hp⟩
 ·rintro ex e w' ⟨q1,q2,v,k1,k2,k3,β,hβ,ay,us,hv,hlen,hp⟩;refine⟨q1,q2,v,k1,k2,k3,β,hβ,ay,us,hv,by omega,fun i y hy => ?_⟩;obtain⟨x,hx⟩:=zL a hy;exact zhy (b i x y hx hy) (hp i x hx)
def zjy (hS:zZ S) (hC:zK S C) {g id:Nat} {fn:Func} {f:TFunc} (hg:S.P.funcs[g]? = some fn) (hc:zbw S id fn=some f.er) (hm:f.muts=[]) {sig:List Sh} {x:Sh.denL sig} (h1:sig.all Sh.arg=true) (h2:sig.length=f.np)
  {α:Type} {k:AExit->TSt->Option α} {y:α} (h:Ab.run C f.body (gp sig x) k=some y) {A:Nat->Prop} {w:World} {vs:Array Value} (hl:vs.size=(encAL sig x).length) (hA:(∀b,A b->b<w.heap.size)∧Inv S w) (hJ:JR S A (fun _=>False) w)
  (ha:∀(i:Nat) (z:AV),(encAL sig x)[i]? = some z->VR0 S A w z (vs.getD i undef)) {R:Ending->World->Prop}
  (hR:∀(e:AExit) (s:TSt) (tm:Array Value) (w':World) (A':Nat->Prop) (σ':Nat->Option Nat),k e s=some y->zbd S A zml w A' σ' w' s.toA tm->(e=.norm∨e=.ret)∧∃v,(results fn tm).run S.P w'=.ok v w'∧R (.returned v) w'):Calls S.P g vs w R:=by
 obtain⟨e,s,hk,hex,_⟩:=zed (S:=S) hC f.body _ _ _ h;obtain⟨a1,a2,a3⟩:=zeN sig x h1;unfold zbw at hc;split at hc
 ·rename_i body res bw aD;split at hc
  ·rename_i az;have ez:=az.1;have hc:=Option.some.inj hc;obtain⟨c,eR,im⟩:∃c,fn.body=some c∧jF S fn.ntmps c=some body:=by
    cases eR:fn.body with
    | none=>simp[eR] at bw
    | some c=>simp[eR] at bw;exact⟨c,rfl,bw⟩
   have hb:body=f.body.er:=congrArg AFunc.body hc;have aF:vs.size<=fn.ntmps:=(by have:fn.params.size+fn.nfree=f.np:=congrArg AFunc.np hc;rw[hl,a3];omega);have aR:qT [] 0 (encAL sig x)=true:=fit_ok _ a2 0;rw[hb] at im;rw[←sB x h1] at hex;refine calls_of_wp hg eR (wp_mono (Stm.wp (wX hS hex (.inr (zly hS)) im ⟨w,.refl S w,hJ,zlv aR hl hA ha _⟩ (by simp;omega))) ?_);rintro ex a w' ⟨q1,q2,_,A',σ',q4⟩;obtain⟨he,v,k1,k2⟩:=hR e s a.tmps w' A' σ' hk q4;subst q1;rcases he with rfl|rfl
   ·exact⟨q2,v,k1,k2⟩
   ·exact⟨q2,v,k1,k2⟩
  ·cases hc
 ·cases hc
end
end
section
set_option maxRecDepth 100000
section
variable (F355:Dim->Int->(Option ((Option LN)×Err))) (F40:LD->(Option Int))
def tc350:TCode:=.seq (rg [oq 2 (.box 0),om 4 (.c (.pointer none)),om 5 cz]) (.seq (.region [oq 13 (.load (some 1) 2),om 14 1,oq 15 (.load (some 1) 2),od 16 (Cl 40 [15]) [2],oq 18 (.load (some 1) 2),od 19 (Cl 40 [18]) [5,3],od 17 (.mksl 1 [.bool false] 16 16) [3,3],od 20 (.mksl 2 [.int .i64 0,.int .i64 0] 19 19) [6,6],od 21 (.build [.slice none 0 0,.slice none 0 0,.slice none 0 0,.slice none 0 0,.slice none 0 0] [(0,1,13),(1,1,14),(3,1,17),(4,1,20)]) [0,1,4,7],od 22 (.box 21) [8],od 6 (.mov 22) [9,6,0,1,2,3,4,5,6,7,8,9]] [.int,.int,.int,.int,.int,.int,.bool,.cell] true) (.seq (.seq (rg [oq 23 (.fa 0 2),oq 24 (Ld 23),oq 25 (Ln 24),om 26 (ci 0)]) (.loop ⟨[.slot 26 .int,.var 22 [.sh (.sl .dim),.sh (.sl .entry),.row 57 (.sl (.ns .node)),.row 17 .bool,.row 20 .cell]],[8,9,10,11,12,27,28,29,30,31,32,33,34,35,36,37,38,39,40,41,42,43,45,46,47,48,49,50,51,52,53,54,55,56,57,58,59,60],[8,47,48,56],[]⟩ 0 (.seq (rg [oq 27 (Bi .lss 26 25)]) (.seq (.cond 27 .skip (.exit 0)) (.seq (.block 1 (.seq (rg [oq 28 (.ia 3 24 26),oq 29 (.load (some 3) 28),oq 8 (.alloc [.string ⟨#[]⟩,.int .i64 0,.slice none 0 0]),on (.store 3 8 29)]) (.seq (rg [om 9 cn]) (.seq (.seq (rg [oq 30 (.fa 2 8),oq 31 (Ld 30),oq 32 (Ln 31),om 33 (ci 0)]) (.loop ⟨[.row 9 48 (.ns .node),.slot 33 .int],[10,11,12,34,35,36,37,38,39,40,41,42,43,45,46,47,48,49],[47],[]⟩ 2 (.seq (rg [oq 34 (Bi .lss 33 32)]) (.seq (.cond 34 .skip (.exit 2)) (.seq (.block 3 (.seq (rg [om 35 33,om 10 35]) (.seq (rg [oq 37 (.load (some 3) 8),om 38 10,oq 39 (.call true [] 355 [37,38]),om 36 39,oq 40 (.ext 36 0),oq 41 (.ext 36 1),om 11 40,om 12 41]) (.seq (.seq (rg [om 42 12,oq 43 (.eqn false true 42)]) (.cond 43 (.seq (rg [om 44 12,om 4 (.c (.pointer none)),om 5 44]) .ret) .skip)) (.region [om 45 9,om 46 11,oq 47 (.bslice true 1 [.slice none 0 0] 1 [(0,46)]),oq 48 (.app 1 45 47),om 9 48] [.int,.int,(.ns .node),(.ns .node)] false))))) (rg [oq 49 (Bi .add 33 (ci 1)),om 33 49])))))) (.region [om 50 6,om 51 6,oq 52 (.chk 51),oq 53 (.fa 2 52),oq 54 (Ld 53),om 55 9,oq 56 (.bslice true 1 [.slice none 0 0] 1 [(0,55)]),oq 57 (.app 1 54 56),oq 58 (.chk 50),oq 59 (.fa 2 58),on (.store 1 59 57)] [.int,.int,.int,.int,.int,.int,(.sl (.ns .node)),(.sl (.ns .node))] false))))) (rg [oq 60 (Bi .add 26 (ci 1)),om 26 60])))))) (.seq (rg [om 61 6,om 4 61,om 5 cz]) .ret))) 
def tf350:TFunc:=⟨2,62,[.tmp 4,.tmp 5],false,tc350,[]⟩
def zfj (y4:Dim) (x5:((List (Option LN))×Int)):Option (LR ((List (Option LN))×Int) (LR (Int×(LD×LY×(List (List (Option LN)))×(List Bool)×LC)) (LD×LY×(List (List (Option LN)))×(List Bool)×LC))) :=
 br (decide (x5.2<((Dim.members y4).length:Int)))
 (bno (F355 y4 x5.2) fun y6 =>
 br (!(Err.isNil y6.2))
 (yk (yk (none)))
 (ck (decide (List.length x5.1+List.length ([y6.1]:List (Option (List Node)))<=zC)) <|
 nxO (some (x5.1++([y6.1]:List (Option (List Node))),wi (x5.2+(1:Int))))))
 (dnO (some (x5.1,x5.2)))
def zhN (a0:LD) (x3:(Int×(LD×LY×(List (List (Option LN)))×(List Bool)×LC))):Option (LR (Int×(LD×LY×(List (List (Option LN)))×(List Bool)×LC)) (LD×LY×(List (List (Option LN)))×(List Bool)×LC)) :=
 br (decide (x3.1<(a0.length:Int)))
 (bno (zu a0 x3.1) fun y4 =>
 lp (zfj F355 y4) (([]:List (Option (List Node))),(0:Int)) fun x7 =>
 ck (decide (List.length x3.2.2.2.1+List.length ([x7.1]:List (List (Option (List Node))))<=zC)) <|
 nxO (some (wi (x3.1+(1:Int)),(x3.2.1,x3.2.2.1,x3.2.2.2.1++([x7.1]:List (List (Option (List Node)))),x3.2.2.2.2.1,x3.2.2.2.2.2))))
 (dnO (some (x3.1,(x3.2.1,x3.2.2.1,x3.2.2.2.1,x3.2.2.2.2.1,x3.2.2.2.2.2))))
def S350 (a0:LD) (a1:LY):Option (LD×LY×(List (List (Option LN)))×(List Bool)×LC) :=
 bno (F40 a0) fun y1 =>
 bno (F40 a0) fun y2 =>
 ck (decide (0<=y1∧y1<=y1∧y1<=zC)) <|
 ck (decide (0<=y2∧y2<=y2∧y2<=zC)) <|
 lp (zhN F355 a0) ((0:Int),(a0,a1,([]:List (List (Option (List Node)))),List.replicate (Int.toNat y1) false,List.replicate (Int.toNat y2) (Cell.mk (0:Int) (0:Int)))) fun x8 =>
 some (x8.2.1,x8.2.2.1,x8.2.2.2.1,x8.2.2.2.2.1,x8.2.2.2.2.2)
def s350 (a0:(List Dim)) (a1:(List Entry)):Ab.run [⟨355,[(.st .dim),.int],(.tp [(.ns .node),.err]),fun x=>F355 x.1 x.2,false,[]⟩,
 ⟨40,[(.st .outl)],.int,fun x=>F40 x,false,[]⟩] tf350.body (gp [(.st .outl),(.sl .entry)] (a0,a1)) kNew=S350 F355 F40 a0 a1:=by kernel_rfl
end
end
section
open Go Go.RowKit
def use_ret {S:Seat} {g id:Nat} (hg:ql g S.fns=some id) {args:List AV} {r:AV} (h:(zb S).ret id args r []) (cq:∀x∈args,zG x=false) {A:Nat->Prop} {w X:World} {vs:Array Value} (hl:vs.size=args.length)
  (hA:(∀b,A b->b<w.heap.size)∧Inv S w) (hJ:JR S A (fun _=>False) w) (hk:KeepO S.jg w X) (hj:S.jn X) (ha:∀(i:Nat) (x:AV),args[i]? = some x->VR0 S A w x (vs.getD i undef)) :
  Calls S.P g vs X fun e Y=>∃v,e=.returned v∧KeepO S.jg X Y∧S.jn Y∧zdm S A X Y r v :=
 (h g hg).old cq A X vs hl ⟨fun b hb=>AE (hA.1 b hb) hk.size,hA.2.keep hJ.ng hk⟩ ⟨hj,fun b hb=>AE (hJ.lt b hb) hk.size,hJ.na,hJ.no,hJ.ng⟩
  fun i x hx=>(ha i x hx).mono (fun _ h=>h) fun b hb=>hk.block b (hA.1 b hb) fun e=>hJ.na b e hb
structure JP where
 s:Solver
 fit:List Int->Prop
 num:List Int->Nat
 rk:List Int->Nat
 U:Nat->Cell
def zkp (c:Cell):List Value:=[.int .i64 c.k,.int .i64 c.n]
structure MemoIs (J:JP) (w:World) (kn:List Bool) (cl:List Cell):Prop where
 hk:∃vs el,w.heap[J.s.kb]? = some (.cells vs el (0,0))∧∀i,i<J.s.n->vs[i]? = some (.bool (kn.getD i false))
 hc:∃vs el,w.heap[J.s.cb]? = some (.cells vs el (0,0))∧∀i,i<J.s.n->vs[i*2]? = some (.int .i64 (cl.getD i default).k)∧vs[i*2+1]? = some (.int .i64 (cl.getD i default).n)
 lk:kn.length=J.s.n
 lc:cl.length=J.s.n
 ok:∀i,kn.getD i false=true->cl.getD i default=J.U i
def Memo (J:JP) (w:World):Prop:=∃kn cl,MemoIs J w kn cl
def JG (J:JP) (b:Nat):Prop:=b=J.s.kb∨b=J.s.cb
def Memo.keep (J:JP) (w w':World) (h:∀b,JG J b->b<w.heap.size∧w'.heap[b]? = w.heap[b]?) (hm:Memo J w):Memo J w':=by obtain⟨kn,cl,⟨v1,e1,h1,g1⟩,⟨v2,e2,h2,g2⟩,h3,h4,h5⟩:=hm;exact⟨kn,cl,⟨v1,e1,((h _ (.inl rfl)).2).trans h1,g1⟩,⟨v2,e2,((h _ (.inr rfl)).2).trans h2,g2⟩,h3,h4,h5⟩
def zH (S:Seat) (J:JP):Seat:={ S with jg:=JG J,jn:=Memo J,jnK:=Memo.keep J }
def GK (J:JP) (X Y:World):Prop:=KeepO (JG J) X Y∧Memo J Y
open Classical in
def zmR (J:JP) (n:Nat) (s:Solver) (p:List Int):Option Cell:=if s=J.s∧J.fit p∧J.rk p<n then some (J.U (J.num p)) else none
def k351 (J:JP) (n:Nat):CSpec:=⟨351,[.bx .solver,.sl .int],.st .cell,fun x=>zmR J n x.1 x.2,false,[]⟩
def AtAt (S:Seat) (J:JP):Prop:=∀g,ql g S.fns=some 351->∃se kD,ql se S.fns=some 49∧ql kD S.fns=some 361 ∧
 ∀ {b o k:Nat} {u0 p:Value} {W:World},b<W.heap.size->b≠J.s.kb->b≠J.s.cb->J.s.kb≠J.s.cb->W.cell? ⟨b,o,none⟩=some u0->u0.oneCell'=true->W.cell? ⟨b,o+3,none⟩=some (zfu J.s.kb J.s.n J.s.kc)->W.cell? ⟨b,o+4,none⟩=some (zfu J.s.cb J.s.n J.s.cc)->Memo J W->k<J.s.n ->
  (∀X,GK J W X->Calls S.P se #[.agg #[u0],p] X fun e Y=>e=.returned (.int .i64 k)∧GK J X Y) ->
  (∀X,GK J W X->Calls S.P kD #[.pointer (some ⟨b,o,none⟩),p] X fun e Y=>e=.returned (.agg (zkp (J.U k)).toArray)∧GK J X Y) ->
  Calls S.P g #[.pointer (some ⟨b,o,none⟩),p] W fun e Y=>e=.returned (.agg (zkp (J.U k)).toArray)∧GK J W Y
end
section
open Go Go.RowKit
def kNew_inv {e:AExit} {s:TSt} {o:List Dim} {l:List Entry} {f:List (List (Option (List Node)))} {kn:List Bool} {cl:List Cell} (h:kNew e s=some (o,l,f,kn,cl)) :
  e=.ret∧nilE (s.ev (.t 5))=true∧∃r c2 s3 v3 s4 v4,s.ev (.t 4)=.pv r 0∧look r .gone s.hp=.var [.sl .dim o,.sl .entry l,c2,.lw s3 v3,.lw s4 v4]∧look s3 .gone s.hp=.row v3 .bool kn∧look s4 .gone s.hp=.row v4 .cell cl ∧
   ((c2=.nl∧f=[])∨∃s2 v2,c2=.lw s2 v2∧look s2 .gone s.hp=.row v2 (.sl (.ns .node)) f):=by
 unfold kNew at h;split at h
 ·rename_i _ _ _ r h4 h5;split at h
  ·rename_i o' l' c2 s3 v3 s4 v4 hr;split at h
   ·rename_i w3 kn' w4 cl' h3 fC;split at h
    ·rename_i e3 e4;obtain rfl:=Bt e3;obtain rfl:=Bt e4;split at h
     ·cases h;exact⟨rfl,h5,r,_,s3,v3,s4,v4,h4,hr,h3,fC,.inl ⟨rfl,rfl⟩⟩
     ·rename_i s2 v2;split at h
      ·rename_i w2 f' h2;split at h
       ·rename_i e2;obtain rfl:=Bt e2;cases h;exact⟨rfl,h5,r,_,s3,v3,s4,v4,h4,hr,h3,fC,.inr ⟨s2,v2,rfl,h2⟩⟩
       ·cases h
      ·cases h
     ·cases h
    ·cases h
   ·cases h
  ·cases h
 ·cases h
def av_nilE {h:THp} {x:TV} (hx:nilE x=true):av h x=.v .nilIface:=by
 cases x with
 | e y=>cases y<;>first|rfl|(simp[nilE] at hx;done)
 | k y=>cases y<;>first|rfl|(simp[nilE] at hx;done)
 | _=>simp[nilE] at hx
structure NewIs (S:Seat) (A:Nat->Prop) (w w':World) (v:Value) (s:Solver) (A':Nat->Prop) (kn:List Bool) (cl:List Cell):Prop where
 sub:∀b,A b->A' b
 lt:∀b,A' b->b<w'.heap.size∧(A b∨w.heap.size<=b)
 rel:VR0 S A' w' (.ep (Solver.cs s) 0) v
 nk:¬A' s.kb
 nc:¬A' s.cb
 ne:s.kb≠s.cb
 bk:w.heap.size<=s.kb∧s.kb<w'.heap.size
 bc:w.heap.size<=s.cb∧s.cb<w'.heap.size
 hk:∃vs el,w'.heap[s.kb]? = some (.cells vs el (0,0))∧∀i,i<kn.length->vs[i]? = some (.bool (kn.getD i false))
 hc:∃vs el,w'.heap[s.cb]? = some (.cells vs el (0,0))∧∀i,i<cl.length->vs[i*2]? = some (.int .i64 (cl.getD i default).k)∧vs[i*2+1]? = some (.int .i64 (cl.getD i default).n)
def getD_some {vs:Array Value} {j:Nat} {x:Value} (h:x=vs.getD j undef) (hx:x≠undef):vs[j]? = some x:=by
 rw[Ao] at h;cases hj:vs[j]? with
 | none=>rw[hj] at h;exact absurd h hx
 | some y=>rw[hj] at h;rw[h];rfl
def new_sound {S:Seat} (hS:zZ S) (dK:Rt S k355) (dQ:Rt S k40) {g:Nat} {fn:Func} (hg:S.P.funcs[g]? = some fn) (hc:zbw S 350 fn=some tf350.er) (aD:fn.results=#[.tmp 4,.tmp 5]) {o o':List Dim} {l l':List Entry} {f:List (List (Option (List Node)))} {kn:List Bool} {cl:List Cell}
  (hP:S350 zmQ P40 o l=some (o',l',f,kn,cl)) (hn:0<kn.length) (aT:cl.length=kn.length) {A:Nat->Prop} {w:World} {vs:Array Value} (hl:vs.size=2) (hA:(∀b,A b->b<w.heap.size)∧Inv S w) (hJ:JR S A (fun _=>False) w)
  (ha:∀(i:Nat) (z:AV),(encAL [.st .outl,.sl .entry] (o,l))[i]? = some z->VR0 S A w z (vs.getD i undef)) :
  Calls S.P g vs w fun e w'=>∃v s A',e=.returned (.tuple #[v,.nilIface])∧KeepO S.jg w w'∧S.jn w'∧s.o=o'∧s.l=l'∧s.f=f∧s.n=kn.length∧NewIs S A w w' v s A' kn cl:=by
 refine zjy hS (C:=[k355,k40]) (zK.cons dK (zK.cons dQ zK.nil)) hg hc rfl rfl rfl ((s350 zmQ P40 o l).trans hP) (sig:=[.st .outl,.sl .entry]) (x:=(o,l)) hl hA hJ ha ?_;intro e s tm w' A1 σ hk hR;obtain⟨w2,r2,j2,q⟩:=hR;obtain⟨rfl,h5,r,c2,s3,v3,s4,v4,h4,hr,h3,fC,dP⟩:=kNew_inv hk;have cg:=keep_jg r2 q;have aF:w2.heap.size=w.heap.size:=r2.size;have f4:VR S A1 σ w' (.pv r 0) (tm.getD 4 undef):=(by have:=q.fr 4;rw[show s.toA.fr 4=av s.hp (s.ev (.t 4)) from rfl,h4] at this;exact this);have f5:tm.getD 5 undef=.nilIface:=(by have:=q.fr 5;rw[show s.toA.fr 5=av s.hp (s.ev (.t 5)) from rfl,av_nilE h5] at this;exact this.v_inv);obtain⟨b,hb,hσ⟩:=f4.pv_inv;refine⟨.inr rfl,.tuple #[tm.getD 4 undef,tm.getD 5 undef],results_tmp2 aD _ _ _, ?_⟩;rw[f5];have bv:=q.hp r _ (show s.toA.hp r=some (.var _) by show blk s.hp (look r .gone s.hp)=_;rw[hr];rfl);have b3:=q.hp s3 _ (show s.toA.hp s3=some (.arr 1 (kn.map (Ty.cells .bool))) by show blk s.hp (look s3 .gone s.hp)=_;rw[h3];rfl);have b4:=q.hp s4 _ (show s.toA.hp s4=some (.arr 2 (cl.map (Ty.cells .cell))) by show blk s.hp (look s4 .gone s.hp)=_;rw[fC];rfl);obtain⟨b',us,el,hσ',hus,hlen,cG⟩:=bv;obtain rfl:b=b':=Option.some.inj (hσ.symm.trans hσ');have c0:VR S A1 σ w' (.sl 3 (o'.map Dim.cs)) (us.getD 0 undef):=cG 0 _ rfl;have c1:VR S A1 σ w' (.sl 2 (l'.map Entry.cs)) (us.getD 1 undef):=cG 1 _ rfl;have gD:VR S A1 σ w' (av1 s.hp (lv1 s.hp c2)) (us.getD 2 undef):=cG 2 _ rfl;have c3:VR S A1 σ w' (.lsl s3 1 0 kn.length) (us.getD 3 undef):=(by have:VR S A1 σ w' (av1 s.hp (lv1 s.hp (.lw s3 v3))) (us.getD 3 undef):=cG 3 _ rfl;rw[show av1 s.hp (lv1 s.hp (.lw s3 v3))=.lsl s3 1 0 kn.length by simp[lv1,av1,h3];rfl] at this;exact this);have c4:VR S A1 σ w' (.lsl s4 2 0 cl.length) (us.getD 4 undef):=(by have:VR S A1 σ w' (av1 s.hp (lv1 s.hp (.lw s4 v4))) (us.getD 4 undef):=cG 4 _ rfl;rw[show av1 s.hp (lv1 s.hp (.lw s4 v4))=.lsl s4 2 0 cl.length by simp[lv1,av1,fC];rfl] at this;exact this)
 -- where the rows stand
 obtain⟨kb,k0,kc,_,_,ek,bX,cW,cx,tN,hk4,hk5⟩:∃b o cap cs el,us.getD 3 undef=.slice (some ⟨b,o,none⟩) kn.length cap∧σ s3=some b∧kn.length<=cap∧(cap≠0∨0=0->o=0*1)∧w'.heap[b]? = some (.cells cs el (0,0))∧(0+cap)*1<=cs.size∧cap<=maxLen:=by
  rcases c3.lsl_inv with⟨_,h,_⟩|h
  ·omega
  ·exact h
 obtain rfl:k0=0:=by have:=cx (.inr rfl);omega
 obtain⟨cb,d0,cc,_,_,ec,eE,fe,rz,mC,tV,hc5⟩:∃b o cap cs el,us.getD 4 undef=.slice (some ⟨b,o,none⟩) cl.length cap∧σ s4=some b∧cl.length<=cap∧(cap≠0∨0=0->o=0*2)∧w'.heap[b]? = some (.cells cs el (0,0))∧(0+cap)*2<=cs.size∧cap<=maxLen:=by
  rcases c4.lsl_inv with⟨_,h,_⟩|h
  ·omega
  ·exact h
 obtain rfl:d0=0:=by have:=rz (.inr rfl);omega
 -- rows are not each other
 have d34:s3≠s4:=fun e=>by rw[e,fC] at h3;cases h3
 have dr3:r≠s3:=fun e=>by rw[e,h3] at hr;cases hr
 have dr4:r≠s4:=fun e=>by rw[e,fC] at hr;cases hr
 have lN:∀t,t∈(av1 s.hp (lv1 s.hp c2)).refs->t≠s3∧t≠s4:=by
  intro t ht;rcases dP with⟨rfl,_⟩|⟨s2,v2,rfl,h2⟩
  ·simp[lv1,av1,aN,AV.refs] at ht
  ·rw[show av1 s.hp (lv1 s.hp (.lw s2 v2))=.lsl s2 (Ty.z (.sl (.ns .node))) 0 f.length by simp[lv1,av1,h2]] at ht;simp only[AV.refs,Ah] at ht;subst ht;exact⟨fun e=>(by rw[e,h3] at h2;cases h2),fun e=>(by rw[e,fC] at h2;cases h2)⟩
 let A':Nat->Prop:=fun x=>A x∨A1 x∨x=b∨∃t∈(av1 s.hp (lv1 s.hp c2)).refs,σ t=some x
 have new:∀t x,σ t=some x->¬A1 x∧w.heap.size<=x∧x<w'.heap.size:=fun t x ht=>(by obtain⟨_,h1,h2,h3⟩:=q.dom t x ht;refine⟨h2, ?_,h1⟩;rw[←aF];exact h3.resolve_right fun e=>e);have A1s:∀x,A1 x->A' x:=fun x hx=>.inr (.inl hx);have notin:∀t x,σ t=some x->t≠r->(∀t'∈(av1 s.hp (lv1 s.hp c2)).refs,t'≠t)->¬A' x:=by
  rintro t x ht bO ht' (hx|hx|rfl|⟨t',m1,m2⟩)
  ·have:=hA.1 x hx;have:=(new t x ht).2.1;omega
  ·exact (new t x ht).1 hx
  ·exact bO (q.inj t r _ ht hσ)
  ·exact ht' t' m1 (q.inj t' t x m2 ht)
 have hF:VR0 S A' w' (zlt f) (us.getD 2 undef):=by
  rcases dP with⟨rfl,rfl⟩|⟨s2,v2,rfl,h2⟩
  ·have:us.getD 2 undef=.slice none 0 0:=gD.v_inv;rw[this];exact .slnil 1
  ·rw[ziU];have e1:av1 s.hp (lv1 s.hp (.lw s2 v2))=.lsl s2 (Ty.z (.sl (.ns .node))) 0 f.length:=by simp[lv1,av1,h2]
   rw[e1] at gD;refine (yw q A1s gD (y:=.sl (Ty.z (.sl (.ns .node))) (f.map (Ty.cells (.sl (.ns .node))))) ?_ fun t ht x hx=>.inr (.inr (.inr ⟨t,by rw[e1];exact ht,hx⟩))).1;have cO:s.toA.hp s2=some (.arr (Ty.z (.sl (.ns .node))) (f.map (Ty.cells (.sl (.ns .node))))):=by show blk s.hp (look s2 .gone s.hp)=_;rw[h2];rfl
   simp only[qo,cO,AY,Aq,Az,and_self,if_true,List.drop_zero];rw[Bx (by simp)]
 refine⟨tm.getD 4 undef,⟨o',l',f,kb,cb,kc,cc,kn.length⟩,A',rfl,cg,(q.jpreA j2).jn,rfl,rfl,rfl,rfl,⟨fun x hx=>.inl hx, ?_, ?_, ?_, ?_, ?_, ?_, ?_, ?_, ?_⟩⟩
 ·rintro x (hx|hx|rfl|⟨t,_,m2⟩)
  ·exact⟨AE (hA.1 x hx) cg.size,.inl hx⟩
  ·refine⟨q.Alt x hx, ?_⟩;rcases q.Asub x hx with h|h|h
   ·exact .inl h
   ·exact .inr (by omega)
   ·exact h.elim
  ·exact⟨(new r _ hσ).2.2,.inr (new r _ hσ).2.1⟩
  ·exact⟨(new t x m2).2.2,.inr (new t x m2).2.1⟩
 ·rw[hb];refine .ep (b:=b) (o:=0) (u:=fun j=>us.getD j undef) (.inr (.inr (.inl rfl))) (fun j hj => ?_) fun j x hx => ?_
  ·have hj5:j<5:=hj;have hs:5<=us.size:=hlen;simp only[World.cell?,hus,AY];rw[Ao,Bh (by omega)];rfl
  ·match j,hx with
   | 0,hx=>cases hx;exact (c0.to0 rfl).mono A1s fun _ _=>rfl
   | 1,hx=>cases hx;exact (c1.to0 rfl).mono A1s fun _ _=>rfl
   | 2,hx=>cases hx;exact hF
   | 3,hx=>cases hx;show VR0 S A' w' (.v (zfu kb kn.length kc)) (us.getD 3 undef);rw[ek];exact .v _
   | 4,hx=>cases hx;show VR0 S A' w' (.v (zfu cb kn.length cc)) (us.getD 4 undef);rw[ec,aT];exact .v _
   | j+5,hx=>simp[Solver.cs] at hx
 ·exact notin s3 kb bX (Ne.symm dr3) fun t ht=>(lN t ht).1
 ·exact notin s4 cb eE (Ne.symm dr4) fun t ht=>(lN t ht).2
 ·exact fun e=>d34 (q.inj s3 s4 kb bX (by rw[eE];exact congrArg some e.symm))
 ·exact (new s3 kb bX).2
 ·exact (new s4 cb eE).2
 ·rcases b3.2 with⟨h,_⟩|⟨b',gq,bT,m1,m2,m3,m4,m5⟩
  ·rw[h] at bX;cases bX
  ·obtain rfl:kb=b':=Option.some.inj (bX.symm.trans m1);refine⟨gq,bT,m2,fun i hi => ?_⟩;have:=m5 i [aB (kn.getD i false)] 0 (aB (kn.getD i false)) (by rw[As,An,Aa hi];rfl) rfl;exact getD_some (by have:=(VR.of0 (σ:=fun _=>none) this).v_inv;simpa using this.symm) (by simp[undef])
 ·rcases b4.2 with⟨h,_⟩|⟨b',gq,bT,m1,m2,m3,m4,m5⟩
  ·rw[h] at eE;cases eE
  ·obtain rfl:cb=b':=Option.some.inj (eE.symm.trans m1);refine⟨gq,bT,m2,fun i hi => ?_⟩;have aQ:(cl.map (Ty.cells .cell))[i]? = some (Cell.cs (cl.getD i default)):=by rw[As,An,Aa hi];rfl
   have e0:=(VR.of0 (σ:=fun _=>none) (m5 i _ 0 _ aQ rfl)).v_inv;have e1:=(VR.of0 (σ:=fun _=>none) (m5 i _ 1 _ aQ rfl)).v_inv;exact⟨getD_some e0.symm (by simp[undef]),getD_some e1.symm (by simp[undef])⟩
end
section
set_option maxRecDepth 100000
section
variable (F298_364:LN->(Solver×LI×Int×Dim)->(Option Cell)) (F33:Cell->Cell->Int->(Option Cell)) (F34:Cell->Cell->(Option Cell)) (F35:Cell->Cell->(Option Cell)) (F351:Solver->LI->(Option Cell)) (F353:LD->LI->(Option Int)) (F364:ByteArray->Solver->LI->Int->Dim->(Option Cell)) (F37:LM->ByteArray->(Option Int)) (F47:Dim->Int->(Option LI)) (F57:LY->LI->(Option Cell)) (F70:LI->Int->Int->(Option LI)) (F8:Int->(Option Cell))
def tc364:TCode:=.seq (rg [oq 6 (.alloc [.int .i64 0,.int .i64 0])]) (.seq (.region [oq 7 (Ld 1),oq 8 (Ld 2),oq 9 (Ld 3),oq 10 (.fa 2 4),od 11 (Ld 10) [3],om 12 0,od 13 (Cl 37 [11,12]) [4,5],od 14 (.call true [] 70 [8,9,13]) [1,2,6,6],od 15 (Cl 351 [7,14]) [0,7,7],⟨none,.store 2 6 15,none,[8,8,0,1,2,3,4,5,6,7,8]⟩] [] true) .ret) 
def tf364:TFunc:=⟨5,16,[.cell 6 (some 2)],false,tc364,[]⟩
def S364 (a0:ByteArray) (a1:Solver) (a2:LI) (a3:Int) (a4:Dim):Option Cell :=
 bno (F37 (Dim.members a4) a0) fun y1 =>
 bno (F70 a2 a3 y1) fun y2 =>
 bno (F351 a1 y2) fun y3 =>
 some y3
def P364 (J:JP) (n:Nat) (a0:ByteArray) (a1:Solver) (a2:(List Int)) (a3:Int) (a4:Dim):Option Cell:=S364 (zmR J n) P37 P70 a0 a1 a2 a3 a4
def k364 (J:JP) (n:Nat):CSpec:=⟨364,[.str,(.bx .psolver),(.bx (.sl .int)),(.bx .int),(.bx .dim)],(.st .cell),fun x=>P364 J n x.1 x.2.1 x.2.2.1 x.2.2.2.1 x.2.2.2.2,false,[]⟩
def r364 {S:Seat} {J:JP} {n:Nat} (h:Ok1 S 364 tf364):RtF S [k351 J n,k37,k70] (Rt S (k364 J n)):=okr h
def zan (a0:LN) (a1:(Solver×LI×Int×Dim)) (x1:(Int×LC)):Option (LR (Int×LC) Cell) :=
 br (decide (x1.1<(a0.length:Int)))
 (bno (zu a0 x1.1) fun y2 =>
 jn (σ:=(List Cell)) (α:=(LR (Int×(List Cell)) Cell)) (br (decide ((Node.op y2)=(1:Int)))
 (bno (F8 (Node.n y2)) fun y3 =>
 ck (decide (0<=x1.1∧x1.1<(x1.2.length:Int))) <|
 bno ((x1.2)[(Int.toNat x1.1)]?) fun y4 =>
 zt (some (List.set x1.2 (Int.toNat x1.1) y3)))
 (jn (σ:=(List Cell)) (α:=(Sum (List Cell) (LR (Int×(List Cell)) Cell))) (br (decide ((Node.op y2)=(2:Int)))
 (bno (F364 (Node.name y2) a1.1 a1.2.1 a1.2.2.1 a1.2.2.2) fun y5 =>
 ck (decide (0<=x1.1∧x1.1<(x1.2.length:Int))) <|
 bno ((x1.2)[(Int.toNat x1.1)]?) fun y6 =>
 zt (some (List.set x1.2 (Int.toNat x1.1) y5)))
 (jn (σ:=(List Cell)) (α:=(Sum (List Cell) (Sum (List Cell) (LR (Int×(List Cell)) Cell)))) (br (decide ((Node.op y2)=(3:Int)))
 (ck (decide (0<=Node.left y2∧Node.left y2<(x1.2.length:Int))) <|
 bno ((x1.2)[(Int.toNat (Node.left y2))]?) fun y7 =>
 ck (decide (0<=Node.right y2∧Node.right y2<(x1.2.length:Int))) <|
 bno ((x1.2)[(Int.toNat (Node.right y2))]?) fun y8 =>
 bno (F33 y7 y8 (1:Int)) fun y9 =>
 ck (decide (0<=x1.1∧x1.1<(x1.2.length:Int))) <|
 bno ((x1.2)[(Int.toNat x1.1)]?) fun db =>
 zt (some (List.set x1.2 (Int.toNat x1.1) y9)))
 (jn (σ:=(List Cell)) (α:=(Sum (List Cell) (Sum (List Cell) (Sum (List Cell) (LR (Int×(List Cell)) Cell))))) (br (decide ((Node.op y2)=(4:Int)))
 (ck (decide (0<=Node.left y2∧Node.left y2<(x1.2.length:Int))) <|
 bno ((x1.2)[(Int.toNat (Node.left y2))]?) fun cA =>
 ck (decide (0<=Node.right y2∧Node.right y2<(x1.2.length:Int))) <|
 bno ((x1.2)[(Int.toNat (Node.right y2))]?) fun fY =>
 bno (F33 cA fY (-1:Int)) fun cj =>
 ck (decide (0<=x1.1∧x1.1<(x1.2.length:Int))) <|
 bno ((x1.2)[(Int.toNat x1.1)]?) fun cM =>
 zt (some (List.set x1.2 (Int.toNat x1.1) cj)))
 (jn (σ:=(List Cell)) (α:=(Sum (List Cell) (Sum (List Cell) (Sum (List Cell) (Sum (List Cell) (LR (Int×(List Cell)) Cell)))))) (br (decide ((Node.op y2)=(5:Int)))
 (ck (decide (0<=Node.left y2∧Node.left y2<(x1.2.length:Int))) <|
 bno ((x1.2)[(Int.toNat (Node.left y2))]?) fun fq =>
 ck (decide (0<=Node.right y2∧Node.right y2<(x1.2.length:Int))) <|
 bno ((x1.2)[(Int.toNat (Node.right y2))]?) fun lI =>
 bno (F34 fq lI) fun kL =>
 ck (decide (0<=x1.1∧x1.1<(x1.2.length:Int))) <|
 bno ((x1.2)[(Int.toNat x1.1)]?) fun oC =>
 zt (some (List.set x1.2 (Int.toNat x1.1) kL)))
 (ck (decide (0<=Node.left y2∧Node.left y2<(x1.2.length:Int))) <|
 bno ((x1.2)[(Int.toNat (Node.left y2))]?) fun y19 =>
 ck (decide (0<=Node.right y2∧Node.right y2<(x1.2.length:Int))) <|
 bno ((x1.2)[(Int.toNat (Node.right y2))]?) fun lH =>
 bno (F35 y19 lH) fun oB =>
 ck (decide (0<=x1.1∧x1.1<(x1.2.length:Int))) <|
 bno ((x1.2)[(Int.toNat x1.1)]?) fun y22 =>
 zt (some (List.set x1.2 (Int.toNat x1.1) oB)))) fun x23 =>
 zt (some x23))) fun oH =>
 zt (some oH))) fun nn =>
 zt (some nn))) fun cw =>
 zt (some cw))) fun x27 =>
 nxO (some (wi (x1.1+(1:Int)),x27)))
 (dnO (some (x1.1,x1.2)))
def zhR (a0:LN) (a1:(Solver×LI×Int×Dim)):Option Cell :=
 ck (decide (0<=(a0.length:Int)∧(a0.length:Int)<=(a0.length:Int)∧(a0.length:Int)<=zC)) <|
 lp (zan F33 F34 F35 F364 F8 a0 a1) ((0:Int),List.replicate (Int.toNat (a0.length:Int)) (Cell.mk (0:Int) (0:Int))) fun td =>
 ck (decide (0<=wi ((a0.length:Int)-(1:Int))∧wi ((a0.length:Int)-(1:Int))<(td.2.length:Int))) <|
 bno ((td.2)[(Int.toNat (wi ((a0.length:Int)-(1:Int))))]?) fun oA =>
 some oA
def zhW (J:JP) (n:Nat) (a0:(List Node)) (a1:(Solver×(List Int)×Int×Dim)):Option Cell:=zhR P33 P34 P35 (P364 J n) P8 a0 a1
def zll (J:JP) (n:Nat):CSpec:=⟨298,[(.sl .node),(.fnc 364 [(.bx .psolver),(.bx (.sl .int)),(.bx .int),(.bx .dim)])],(.st .cell),fun x=>zhW J n x.1 x.2,false,[]⟩
def r298_364 {S:Seat} {J:JP} {n:Nat} (h:Ok1 S 298 tf298):RtF S [k33,k34,k35,k364 J n,k8] (Rt S (zll J n)):=okr h
def tc361:TCode:=.seq (rg [oq 2 (.box 0),oq 3 (.box 1),oq 4 (.alloc [.int .i64 0,.int .i64 0])]) (.seq (.region [oq 12 (Ld 2),od 13 (.chk 12) [0],od 14 (.fa 0 13) [1],od 15 (.load (some 1) 14) [2],oq 16 (Ld 3),od 17 (Cl 353 [15,16]) [3,4],oq 5 (.alloc [.int .i64 0]),⟨none,.store 1 5 17,none,[6,5,5,0,1,2,3,4,5,6]⟩] [] true) (.seq (.seq (rg [oq 18 (Ld 5),oq 19 (Bi .lss 18 (ci 0))]) (.cond 19 (.seq (.region [oq 20 (Ld 2),od 21 (.chk 20) [0],od 22 (.fa 1 21) [1],od 23 (Ld 22) [2],oq 24 (Ld 3),od 25 (Cl 57 [23,24]) [3,4],⟨none,.store 2 4 25,none,[5,5,0,1,2,3,4,5]⟩] [] true) .ret) .skip)) (.seq (.region [oq 26 (Ld 2),od 27 (.chk 26) [0],od 28 (.fa 0 27) [1],od 29 (.fa 0 28) [2],od 30 (Ld 29) [3],oq 31 (Ld 5),od 32 (.ia 3 30 31) [4,5],od 33 (.load (some 3) 32) [6],oq 6 (.alloc [.string ⟨#[]⟩,.int .i64 0,.slice none 0 0]),⟨none,.store 3 6 33,none,[8,7,0,1,2,3,4,5,6,7,8]⟩] [] true) (.seq (.seq (.region [oq 34 (Ld 2),od 35 (.chk 34) [0],od 36 (.fa 2 35) [1],od 37 (Ld 36) [2],oq 38 (Ld 5),od 39 (.ia 1 37 38) [3,4],od 40 (Ld 39) [5],oq 41 (Ld 3),oq 42 (Ld 5),od 43 (.ia 1 41 42) [7,8],od 44 (Ld 43) [9],od 45 (.ia 1 40 44) [6,10],od 46 (Ld 45) [11],od 7 (.mov 46) [12,0,1,2,3,4,5,6,7,8,9,10,11,12]] [] true) (.seq (rg [om 47 7,oq 48 (.eqn true true 47)]) (.cond 48 (.seq (rg [om 49 7,oq 50 (.mkfn 364 [2,3,5,6]),oq 51 (Cl 298 [49,50]),on (.store 2 4 51)]) .ret) .skip))) (.seq (rg [oq 8 (.alloc [.int .i64 0,.int .i64 0])]) (.seq (.seq (.region [oq 52 (.load (some 3) 6),oq 53 (Ld 3),oq 54 (Ld 5),od 55 (.ia 1 53 54) [1,2],od 56 (Ld 55) [3],od 57 (.call true [] 47 [52,56]) [0,4],od 58 (Ln 57) [5],om 59 (ci 0)] [] true) (.loop ⟨[.slot 59 .int,.var 8 [.sh .int,.sh .int]],[10,11,60,61,62,63,64,65,66,67,68,69,70,71,72,73,74,75,76,77,78,79,80],[],[]⟩ 0 (.seq (rg [oq 60 (Bi .lss 59 58)]) (.seq (.cond 60 .skip (.exit 0)) (.seq (.block 1 (.seq (rg [oq 61 (.ia 1 57 59),oq 62 (Ld 61),om 10 62]) (.seq (rg [oq 63 (.fa 2 6),oq 64 (Ld 63),om 65 10,oq 66 (.ia 4 64 65),oq 67 (.fa 2 66),oq 68 (Ld 67),om 11 68]) (.seq (rg [om 69 11,oq 70 (Bi .neq 69 (ci 0))]) (.condJ ⟨[.var 8 [.sh .int,.sh .int]],[71,72,73,74,75,76,77,78,79],[],[]⟩ 70 (.region [oq 71 (.load (some 2) 8),oq 72 (Ld 2),oq 73 (Ld 3),oq 74 (Ld 5),om 75 10,od 76 (.call true [] 70 [73,74,75]) [2,3,4],od 77 (Cl 351 [72,76]) [1,5,5],om 78 11,od 79 (Cl 33 [71,77,78]) [0,6,7,6],⟨none,.store 2 8 79,none,[8,8,0,1,2,3,4,5,6,7,8]⟩] [] true) .skip))))) (rg [oq 80 (Bi .add 59 (ci 1)),om 59 80])))))) (.seq (rg [oq 81 (.load (some 2) 8),on (.store 2 4 81)]) .ret))))))) 
def tf361:TFunc:=⟨2,82,[.cell 4 (some 2)],false,tc361,[]⟩
def zhL (a0:Solver) (a1:LI) (y1:Int) (y3:Dim) (y9:LI) (bn:(Int×(Int×Int))):Option (LR (Int×(Int×Int)) Cell) :=
 br (decide (bn.1<(y9.length:Int)))
 (bno (zu y9 bn.1) fun cA =>
 bno (zu (Dim.members y3) cA) fun fY =>
 jn (σ:=(Int×Int)) (α:=(LR (Int×(Int×Int)) Cell)) (br (decide (¬(Member.sign fY)=(0:Int)))
 (bno (F70 a1 y1 cA) fun cj =>
 bno (F351 a0 cj) fun cM =>
 bno (F33 (Cell.mk bn.2.1 bn.2.2) cM (Member.sign fY)) fun fq =>
 zt (some (Cell.k fq,Cell.n fq)))
 (zt (some (bn.2.1,bn.2.2)))) fun dk =>
 nxO (some (wi (bn.1+(1:Int)),(dk.1,dk.2))))
 (dnO (some (bn.1,(bn.2.1,bn.2.2))))
def S361 (a0:Solver) (a1:LI):Option Cell :=
 bno (F353 (Solver.o a0) a1) fun y1 =>
 br (decide (y1<(0:Int)))
 (bno (F57 (Solver.l a0) a1) fun y2 =>
 some y2)
 (bno (zu (Solver.o a0) y1) fun y3 =>
 bno (zu (Solver.f a0) y1) fun y4 =>
 bno (zu a1 y1) fun y5 =>
 bno (zu y4 y5) fun y6 =>
 ck (match (y6:Option (List Node)) with|some xs => !xs.isEmpty|none=>true) <|
 br (Option.isSome y6)
 (bno (F298_364 (Option.getD y6 ([]:List Node)) (a0,a1,y1,y3)) fun y7 =>
 some y7)
 (bno (zu a1 y1) fun y8 =>
 bno (F47 y3 y8) fun y9 =>
 lp (zhL F33 F351 F70 a0 a1 y1 y3 y9) ((0:Int),((0:Int),(0:Int))) fun lJ =>
 some (Cell.mk lJ.2.1 lJ.2.2)))
def P361 (J:JP) (n:Nat) (a0:Solver) (a1:(List Int)):Option Cell:=S361 (zhW J n) P33 (zmR J n) P353 P47 P57 P70 a0 a1
def k361 (J:JP) (n:Nat):CSpec:=⟨361,[(.bx .solver),(.sl .int)],(.st .cell),fun x=>P361 J n x.1 x.2,false,[]⟩
def r361 {S:Seat} {J:JP} {n:Nat} (h:Ok1 S 361 tf361):RtF S [zll J n,k33,k351 J n,k353,k47,k57,k70] (Rt S (k361 J n)):=okr h
end
end
section
open Go Go.RowKit
structure JOk (J:JP):Prop where
 num:∀p,J.fit p->P49 J.s.o p=some ((J.num p:Nat):Int)∧J.num p<J.s.n
 tell:∀p,J.fit p->P361 J (J.rk p) J.s p=some (J.U (J.num p))
 ne:J.s.kb≠J.s.cb
def zgr {vs:Array Value} (hl:vs.size=2):∃x0 x1,vs=#[x0,x1]:=by
 obtain⟨r⟩:=vs
 match r,hl with
 | [x0,x1],_=>exact⟨x0,x1,rfl⟩
def cell_back {S:Seat} {A:Nat->Prop} {w:World} {c:Cell} {v:Value} (h:VR0 S A w (.agg (Cell.cs c)) v):v=.agg (zkp c).toArray:=by obtain⟨us,rfl,hl,hu⟩:=VR.agg_inv (σ:=fun _=>none) (.of0 h);obtain⟨x0,x1,rfl⟩:=zgr (vs:=us) hl.symm;have h0:=(hu 0 _ rfl).v_inv;have h1:=(hu 1 _ rfl).v_inv;simp only[Array.getD,Bq,Ax,BI] at h0 h1;have h0:x0=.int .i64 c.k:=h0;have h1:x1=.int .i64 c.n:=h1;rw[h0,h1];rfl
def cell_fwd {S:Seat} {A:Nat->Prop} {w:World} (c:Cell):VR0 S A w (.agg (Cell.cs c)) (.agg (zkp c).toArray):=by
 refine .agg rfl fun i x hx => ?_
 match i,hx with
 | 0,hx=>cases hx;exact .v _
 | 1,hx=>cases hx;exact .v _
 | i+2,hx=>simp[Cell.cs] at hx
def ret_v {S:Seat} {A:Nat->Prop} {X Y:World} {x v:Value} (h:zdm S A X Y (.v x) v):v=x:=by obtain⟨β,_,_,hp⟩:=h;exact VR.v_inv (σ:=fun _=>none) (.of0 (show zap S _ _ (β 0) (.v x) v from hp).2)
def ret_cell {S:Seat} {A:Nat->Prop} {X Y:World} {c:Cell} {v:Value} (h:zdm S A X Y (.agg (Cell.cs c)) v):v=.agg (zkp c).toArray:=by obtain⟨β,_,_,hp⟩:=h;exact cell_back (show zap S _ _ (β 0) (.agg (Cell.cs c)) v from hp).2
def r351s {S:Seat} {J:JP} {n:Nat} (aK:JOk J) (h:AtAt (zH S J) J) (mO:Rt (zH S J) k49) (kt:∀m,m<=n->Rt (zH S J) (k361 J m)):Rt (zH S J) (k351 J (n+1)):=fun (x:Solver×List Int) (y:Cell) hy=>by
 obtain⟨s,p⟩:=x;have cm:zmR J (n+1) s p=some y:=hy;clear hy;unfold zmR at cm;split at cm
 ·rename_i hc;obtain⟨rfl,aR,hrk⟩:=hc;obtain rfl:=Option.some.inj cm;obtain⟨kY,gY⟩:=aK.num p aR;have ht:(zb (zH S J)).ret 361 [.ep (Solver.cs J.s) 0,.sl 1 (p.map fun n=>[aI n])] (.agg (Cell.cs (J.U (J.num p)))) []:=kt (J.rk p) (by omega) (J.s,p) (J.U (J.num p)) (aK.tell p aR);have ew:(zb (zH S J)).ret 49 [.agg [.sl 3 (J.s.o.map Dim.cs)],.sl 1 (p.map fun n=>[aI n])] (.v (.int .i64 (J.num p))) []:=mO (J.s.o,p) _ kY;intro g hg;obtain⟨se,kD,pX,mq,walk⟩:=h g hg;show wY (zH S J) g [.ep (Solver.cs J.s) 0,.sl 1 (p.map fun n=>[aI n])] (.agg (Cell.cs (J.U (J.num p)))) [];refine yB (fun A w vs hl hA hJ ha => ?_) (by simp[zG]);obtain⟨v0,v1,rfl⟩:=zgr hl;obtain⟨b,o,u,fw,rN,hc,hr⟩:=VR.ep_inv (σ:=fun _=>none) (.of0 (ha 0 _ rfl));have fw:v0=.pointer (some ⟨b,o,none⟩):=fw;subst fw;have h3:u 3=zfu J.s.kb J.s.n J.s.kc:=VR.v_inv (σ:=fun _=>none) (.of0 (hr 3 _ rfl));have h4:u 4=zfu J.s.cb J.s.n J.s.cc:=VR.v_inv (σ:=fun _=>none) (.of0 (hr 4 _ rfl));have one:(u 0).oneCell'=true:=VR.cell1 (σ:=fun _=>none) (.of0 (hr 0 _ rfl)) rfl;have hlen:(Solver.cs J.s).length=5:=rfl;have a1:VR0 (zH S J) A w (.sl 1 (p.map fun n=>[aI n])) v1:=ha 1 _ rfl;refine (walk (k:=J.num p) (u0:=u 0) (p:=v1) (hA.1 b rN) (fun e=>hJ.na b (.inl e) rN) (fun e=>hJ.na b (.inr e) rN) aK.ne (hc 0 (by omega)) one (by rw[←h3];exact hc 3 (by omega)) (by rw[←h4];exact hc 4 (by omega)) hJ.jn gY ?_ ?_).mono ?_
  ·rintro X ⟨hk,hm⟩;refine (use_ret pX ew (by simp[zG]) (vs:=#[.agg #[u 0],v1]) rfl hA hJ hk hm fun i x hx => ?_).mono ?_
   ·match i,hx with
    | 0,hx =>
     cases hx;refine .agg rfl fun j y hy => ?_
     match j,hy with
     | 0,hy=>cases hy;exact hr 0 _ rfl
     | j+1,hy=>simp at hy
    | 1,hx=>cases hx;exact a1
    | i+2,hx=>simp at hx
   ·rintro e Y ⟨v,rfl,aA,bA,bO⟩;exact⟨by rw[ret_v bO],aA,bA⟩
  ·rintro X ⟨hk,hm⟩;refine (use_ret mq ht (by simp[zG]) (vs:=#[.pointer (some ⟨b,o,none⟩),v1]) rfl hA hJ hk hm fun i x hx => ?_).mono ?_
   ·match i,hx with
    | 0,hx=>cases hx;exact ha 0 _ rfl
    | 1,hx=>cases hx;exact a1
    | i+2,hx=>simp at hx
   ·rintro e Y ⟨v,rfl,aA,bA,bO⟩;exact⟨by rw[ret_cell bO],aA,bA⟩
  ·rintro e Y ⟨rfl,hk,hm⟩;exact⟨_,rfl,hk,hm,fun _=>none,by simp,by simp,rfl,cell_fwd _⟩
 ·cases cm
def r351 {S:Seat} {J:JP} (aK:JOk J) (h:AtAt (zH S J) J) (mO:Rt (zH S J) k49) (hs:∀m,Rt (zH S J) (k351 J m)->Rt (zH S J) (k361 J m)):∀n,Rt (zH S J) (k351 J n):=by
 intro n
 induction n using Nat.strongRecOn with
 | _ n ih =>
  cases n with
  | zero =>intro x y hy;have hy:zmR J 0 x.1 x.2=some y:=hy;unfold zmR at hy;rw[if_neg (fun h=>by omega)] at hy;cases hy
  | succ n=>exact r351s aK h mO fun m hm=>hs m (ih m (by omega))
end
section
open Go Go.RowKit
section
variable {S:Seat} {J:JP}
def VR0.toJ {A:Nat->Prop} {w:World} {x:AV} {v:Value} (h:VR0 S A w x v):VR0 (zH S J) A w x v:=by
 induction h with
 | bot v=>exact .bot v
 | v x=>exact .v x
 | agg h1 _ ih=>exact .agg h1 ih
 | tup h1 _ ih=>exact .tup h1 ih
 | sl h1 h2 h3 h4 h5 _ ih=>exact .sl h1 h2 h3 h4 h5 ih
 | slnil z=>exact .slnil z
 | slemp z a cap=>exact .slemp z a cap
 | ep h1 h2 _ ih=>exact .ep h1 h2 ih
 | fn h0 h1 _ ih=>exact .fn h0 h1 ih
 | ifc h0 _ ih=>exact .ifc h0 ih
def VR0.ofJ {A:Nat->Prop} {w:World} {x:AV} {v:Value} (h:VR0 (zH S J) A w x v):VR0 S A w x v:=by
 induction h with
 | bot v=>exact .bot v
 | v x=>exact .v x
 | agg h1 _ ih=>exact .agg h1 ih
 | tup h1 _ ih=>exact .tup h1 ih
 | sl h1 h2 h3 h4 h5 _ ih=>exact .sl h1 h2 h3 h4 h5 ih
 | slnil z=>exact .slnil z
 | slemp z a cap=>exact .slemp z a cap
 | ep h1 h2 _ ih=>exact .ep h1 h2 ih
 | fn h0 h1 _ ih=>exact .fn h0 h1 ih
 | ifc h0 _ ih=>exact .ifc h0 ih
def zap.ofJ {A A':Nat->Prop} {w:World} {b?:Option Nat} {x:AV} {v:Value} (hA:∀b,A b->A' b) (h:zap (zH S J) A w b? x v):zap S A' w b? x v:=by
 cases x with
 | own z es =>obtain⟨h0,h⟩:=h;refine⟨h0,h.imp id ?_⟩;rintro⟨b,cap,vs,el,k1,k2,k3,k4,k5,k6,k7,k8⟩;exact⟨b,cap,vs,el,k1,k2,k3,k4,k5,k6,k7,fun i e c x h1 h2=>((k8 i e c x h1 h2).ofJ).mono hA fun _ _=>rfl⟩
 | _=>exact⟨h.1,(VR0.ofJ h.2).mono hA fun _ _=>rfl⟩
def ret_end {A A':Nat->Prop} {W Y Z:World} {r:AV} {v:Value} (hr:zdm (zH S J) A' Y Z r v) (h1:∀x,A' x->A x∨W.heap.size<=x) (h2:W.heap.size<=Y.heap.size):zdm S A W Z r v:=by
 obtain⟨β,hβ,ay,hp⟩:=hr;have hA:∀b,qy A' β Y Z b->qy A β W Z b:=fun b ⟨q1,q2,q3⟩=>⟨by rcases q1 with h|h;exact h1 b h;exact .inr (by omega),q2,q3⟩;refine⟨β,fun i b hb=>⟨by have:=(hβ i b hb).1;omega,(hβ i b hb).2⟩,ay, ?_⟩;by_cases ht:qv r=true
 ·have h0:zap (zH S J) (qy A' β Y Z) Z (β 0) r v:=by
   cases r with
   | tup=>simp[qv] at ht
   | _=>exact hp
  have h3:=zap.ofJ hA h0;cases r with
  | tup=>simp[qv] at ht
  | _=>exact h3
 ·cases r with
  | tup rs =>obtain⟨vs,e,hl,ha⟩:=hp;exact⟨vs,e,hl,fun i x hx=>(ha i x hx).ofJ hA⟩
  | _=>exact absurd rfl ht
def zli {W Y Z:World} (h:KeepO (fun _=>False) W Y) (hk:KeepO (JG J) Y Z) (h1:W.heap.size<=J.s.kb) (h2:W.heap.size<=J.s.cb):KeepO (fun _=>False) W Z :=
 ⟨hk.os.trans h.os,hk.tape.trans h.tape,hk.output.trans h.output,AD h.size hk.size,fun b hb _ =>
  (hk.block b (AE hb h.size) fun e=>by rcases e with e|e<;>omega).trans (h.block b hb fun e=>e)⟩
def NewIs.jr {A A':Nat->Prop} {w w':World} {v:Value} {kn:List Bool} {cl:List Cell} (h:NewIs S A w w' v J.s A' kn cl) (hk:kn=List.replicate J.s.n false) (hc:cl.length=J.s.n) (hw:Inv S w) (cg:KeepO (fun _=>False) w w') :
  JR (zH S J) A' (fun _=>False) w'∧(∀b,A' b->b<w'.heap.size)∧Inv (zH S J) w':=by
 have hi:Inv S w':=hw.keep (fun _ _ h=>h) cg;obtain⟨v1,e1,k1,k2⟩:=h.hk;obtain⟨v2,e2,c1,c2⟩:=h.hc;have hl:kn.length=J.s.n:=by rw[hk];simp
 refine⟨⟨⟨kn,cl,⟨v1,e1,k1,fun i hi=>k2 i (by omega)⟩,⟨v2,e2,c1,fun i hi=>c2 i (by omega)⟩,hl,hc,fun i hi => ?_⟩, ?_, ?_,fun _ _ h=>h, ?_⟩,fun b hb=>(h.lt b hb).1,hi⟩
 ·rw[hk,An,B3] at hi;split at hi<;>simp at hi
 ·rintro b (rfl|rfl)
  ·exact h.bk.2
  ·exact h.bc.2
 ·rintro b (rfl|rfl)
  ·exact h.nk
  ·exact h.nc
 ·rintro b hb (rfl|rfl)
  ·have:=hw.lt _ hb;have:=h.bk.1;omega
  ·have:=hw.lt _ hb;have:=h.bc.1;omega
end
end
section
set_option maxRecDepth 100000
section
variable (F351:Solver->LI->(Option Cell)) (F40:LD->(Option Int)) (F69:LD->Int->(Option LI))
def tc1332:TCode:=.seq (rg [om 9 cn]) (.seq (.seq (rg [oq 26 (.load (some 1) 2),oq 27 (Cl 40 [26]),om 28 (ci 0)]) (.loop ⟨[.row 9 38 .cell,.slot 28 .int],[10,29,30,31,32,33,34,35,36,37,38,39],[37],[]⟩ 0 (.seq (rg [oq 29 (Bi .lss 28 27)]) (.seq (.cond 29 .skip (.exit 0)) (.seq (.block 1 (.seq (rg [om 30 28,om 10 30]) (.region [om 31 9,om 32 7,oq 33 (.load (some 1) 2),om 34 10,oq 35 (.call true [] 69 [33,34]),oq 36 (Cl 351 [32,35]),oq 37 (.bslice false 2 [.int .i64 0,.int .i64 0] 1 [(0,36)]),oq 38 (.app 2 31 37),om 9 38] [.int,.int,.int,.int,.int,.int,.cell,.cell] false))) (rg [oq 39 (Bi .add 28 (ci 1)),om 28 39])))))) (.seq (rg [om 40 9,om 4 40,om 5 cz]) .ret)) 
def zkP:TFunc:=⟨0,41,[.tmp 4,.tmp 5],false,tc1332,[]⟩
def zdX (a0:LD) (a1:Solver) (y1:Int) (x2:(LC×Int)):Option (LR (LC×Int) (LC×Err)) :=
 br (decide (x2.2<y1))
 (bno (F69 a0 x2.2) fun y3 =>
 bno (F351 a1 y3) fun y4 =>
 ck (decide (List.length x2.1+List.length ([y4]:List Cell)<=zC)) <|
 nxO (some (x2.1++([y4]:List Cell),wi (x2.2+(1:Int)))))
 (dnO (some (x2.1,x2.2)))
def S1332 (a0:LD) (a1:Solver):Option (LC×Err) :=
 bno (F40 a0) fun y1 =>
 lp (zdX F351 F69 a0 a1 y1) (([]:List Cell),(0:Int)) fun x5 =>
 some (x5.1,Err.nil)
def s1332 (a0:(List Dim)) (a1:Solver):zkP.runFrom [⟨351,[(.bx .solver),(.sl .int)],(.st .cell),fun x=>F351 x.1 x.2,false,[]⟩,
 ⟨40,[(.st .outl)],.int,fun x=>F40 x,false,[]⟩,
 ⟨69,[(.st .outl),.int],(.sl .int),fun x=>F69 x.1 x.2,false,[]⟩] { fr:=[(2,enc (.bx .outl) a0),(7,enc (.bx .solver) a1)],hp:=[],ctr:=1 } (.tp [(.sl .cell),.err])=S1332 F351 F40 F69 a0 a1:=by kernel_rfl
end
end
end Ab
