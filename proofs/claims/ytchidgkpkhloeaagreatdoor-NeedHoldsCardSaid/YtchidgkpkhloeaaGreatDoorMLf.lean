/-
  need.Leafs: the zaS that a place needs, by what the seat's program is known to answer.
-/
import Derived.Test.YtchidgkpkhloeaaGreatDoorHH
open List (getElem?_map)
set_option linter.unusedVariables false
set_option linter.unusedSimpArgs false
noncomputable section
namespace Ab
open Go Go.RowKit Go.Sort Go.Proofs
def lfN (n:List (List Int)) (lf:Nat->Bool):Nat->List Bool->List Int->List Int->Option (List Int)
 | 0,_,_,_=>none
 | _+1,_,out,[]=>some out
 | f+1,seen,out,k :: row=>if seen.getD k.toNat false=true then lfN n lf f seen out row else lfN n lf f (seen.set k.toNat true) (if lf k.toNat=true then out++[k] else out) (row++n.getD k.toNat [])
def zgF (o:List Dim) (p:List Int):Option (List Int):=lfN (ju o) (fun k=>jE o (qq o k).1) 1000000 (List.replicate (sizeN o) false) [] [((qA o p:Nat):Int)]
open Classical in
def P317 (o:List Dim) (p:List Int):Option (List Int×Err) :=
 if p.length<=9223372036854775807 then (if (zaD o).2.2=0 then (if ja o p=0 then (match zgF o p with | some out=>some (yN out,.nil) | none=>none) else some ([],zm (ja o p))) else some ([],zm (zaD o).2.2)) else none
def k317:CSpec:=⟨317,[.st .outl,.sl .int],.tp [.sl .int,.err],fun x=>P317 x.1 x.2,false,[]⟩
structure SmallN (n:List (List Int)) (k0:Nat):Prop where
 rng:Rng n
 k0:k0 < n.length
 len:n.length<=20736
 rows:∀ k,(n.getD k []).length<=30
def FreshI (base:Nat) (Z:World) (v:Value) (l:List Int):Prop:=(l=[]∧v=.slice none 0 0)∨∃ b cap,v=.slice (some ⟨b,0,none⟩) l.length cap∧l.length<=cap∧base<=b∧b < Z.heap.size∧∀ j,j < l.length->Z.cell? ⟨b,j,none⟩=some (.int .i64 (l.getD j 0))
def LeafsAt (S:Seat):Prop:=∀ g,zP g S.fns=some 317->∃ g342 g58 g49 g69 g59 g343 g213,zP g342 S.fns=some 342∧zP g58 S.fns=some 58∧zP g49 S.fns=some 49∧zP g69 S.fns=some 69∧zP g59 S.fns=some 59∧zP g343 S.fns=some 343∧zP g213 S.fns=some 213 ∧
 (∀ {u0 p:Value} {W:World} {R:Ending->World->Prop} {M:World->Value->Prop} {Q:World->Value->Nat->Prop} {n:List (List Int)} {lf:Nat->Bool} {k0 f0:Nat} {out:List Int},u0.oneCell'=true->SmallN n k0->lfN n lf f0 (List.replicate n.length false) [] [(k0:Int)]=some out ->
  (∀ X,K0' W X->Calls S.P g342 #[.agg #[u0]] X fun e Y=>∃ mv,e=.returned (.tuple #[mv,.nilIface])∧K0' X Y∧∀ Z,K0' Y Z->M Z mv) ->
  (∀ X,K0' W X->Calls S.P g58 #[.agg #[u0],p] X fun e Y=>e=.returned .nilIface∧K0' X Y) ->
  (∀ X,K0' W X->Calls S.P g49 #[.agg #[u0],p] X fun e Y=>e=.returned (.int .i64 k0)∧K0' X Y) ->
  (∀ X k,K0' W X->k < n.length->Calls S.P g69 #[.agg #[u0],.int .i64 k] X fun e Y=>∃ q,e=.returned q∧K0' X Y∧∀ Z,K0' W Z->Y.heap.size<=Z.heap.size->(∀ b,b < Y.heap.size->X.heap.size<=b->Z.heap[b]? = Y.heap[b]?)->Q Z q k) ->
  (∀ X q k,K0' W X->k < n.length->Q X q k->Calls S.P g59 #[.agg #[u0],q] X fun e Y=>e=.returned (.bool (lf k))∧K0' X Y) ->
  (∀ X mv q k,K0' W X->k < n.length->M X mv->Q X q k->Calls S.P g343 #[.agg #[u0],mv,q] X fun e Y=>∃ v,e=.returned v∧K0' X Y∧zaG Y.heap.size Y v (n.getD k [])) ->
  (∀ (blk cap:Nat) (ss:List Int) (w:World),Holds (Value.int .i64) w blk 0 ss.toArray->blk < w.heap.size->ss.length < 4611686018427387904 ->
   Calls S.P g213 #[.slice (some ⟨blk,0,none⟩) ss.length cap] w fun e w'=>e=.returned (.tuple #[])∧∃ n os,w'=grow (putRow (Value.int .i64) (Sort.ahead w n) blk 0 (ss.mergeSort fun x y=>decide (x<=y)).toArray) os) ->
  (∀ (a:Option Addr) (cap:Nat) (w:World),Calls S.P g213 #[.slice a 0 cap] w fun e w'=>e=.returned (.tuple #[])∧w'=w) ->
  (∀ Z v,K0' W Z->FreshI W.heap.size Z v (yN out)->R (.returned (.tuple #[v,.nilIface])) Z)->Calls S.P g #[.agg #[u0],p] W R) ∧
 (∀ {u0 p:Value} {W:World} {R:Ending->World->Prop},u0.oneCell'=true ->
  (∀ X,K0' W X->Calls S.P g342 #[.agg #[u0]] X fun e Y=>∃ mv T v,e=.returned (.tuple #[mv,.iface T v])∧K0' X Y∧R (.returned (.tuple #[.slice none 0 0,.iface T v])) Y)->Calls S.P g #[.agg #[u0],p] W R) ∧
 (∀ {u0 p:Value} {W:World} {R:Ending->World->Prop},u0.oneCell'=true ->
  (∀ X,K0' W X->Calls S.P g342 #[.agg #[u0]] X fun e Y=>∃ mv,e=.returned (.tuple #[mv,.nilIface])∧K0' X Y) ->
  (∀ X,K0' W X->Calls S.P g58 #[.agg #[u0],p] X fun e Y=>∃ T v,e=.returned (.iface T v)∧K0' X Y∧R (.returned (.tuple #[.slice none 0 0,.iface T v])) Y)->Calls S.P g #[.agg #[u0],p] W R)
theorem zhD {S:Seat} {A:Nat->Prop} {X Y:World} {x y:AV} {v:Value} (hx:zp x=false) (hy:zp y=false) (h:zb1 S A X Y (.tup [x,y]) v):∃ a b,v=.tuple #[a,b]∧VR0 S (zO A (fun _=>none) X Y) Y x a∧VR0 S (zO A (fun _=>none) X Y) Y y b:=by
 obtain ⟨β,h1,_,us,rfl,hl,hp⟩:=h;obtain ⟨a,b,rfl⟩:∃ a b,us=#[a,b]:=za3 hl.symm;have un:∀ {z:AV} {b?:Option Nat} {u:Value},zp z=false->wa S (zO A β X Y) Y b? z u->VR0 S (zO A (fun _=>none) X Y) Y z u:=by
  intro z b? u hz hz2;have:VR0 S (zO A β X Y) Y z u:=(by cases z<;>first | exact hz2.2 | simp[zp] at hz)
  exact this.mono (fun b hb=>⟨hb.1,hb.2.1,by simp⟩) fun _ _=>rfl
 exact ⟨a,b,rfl,un hx (hp 0 x rfl),un hy (hp 1 y rfl)⟩
theorem zcW {S:Seat} {A:Nat->Prop} {X Y:World} {z:Nat} {es:List (List AV)} {v:Value} (h:zb1 S A X Y (.sl z es) v):VR0 S (zO A (fun _=>none) X Y) Y (.sl z es) v:=by obtain ⟨β,h1,_,hp⟩:=h;have:wa S (zO A β X Y) Y (β 0) (.sl z es) v:=hp;exact this.2.mono (fun b hb=>⟨hb.1,hb.2.1,by simp⟩) fun _ _=>rfl
theorem fresh_fwd {S:Seat} {A:Nat->Prop} {w Z:World} {v:Value} {l:List Int} (h:FreshI w.heap.size Z v l):VR0 S (zO A (fun _=>none) w Z) Z (.sl 1 (l.map fun x=>[aI x])) v:=by
 rcases h with ⟨rfl,rfl⟩ | ⟨b,cap,rfl,h2,h3,h4,h5⟩
 ·exact .slnil 1
 ·have:=VR0.sl (S:=S) (A:=zO A (fun _=>none) w Z) (w:=Z) (z:=1) (es:=l.map fun x=>[aI x]) (b:=b) (o:=0) (cap:=cap) (u:=fun j=>.int .i64 (l.getD j 0)) ⟨.inr h3,h4,by simp⟩ (by simpa using h2)
   (fun e he=>by obtain ⟨x,_,rfl⟩:=List.mem_map.1 he;rfl) (fun j hj=>by rw[Nat.zero_add];exact h5 j (by simpa using hj)) (fun j hj=>rfl) (fun i e c x hi hc=>by
    rw[getElem?_map,Option.map_eq_some_iff] at hi;obtain ⟨y,hy,rfl⟩:=hi
    match c,hc with
    | 0,hc =>cases hc;rw[Nat.mul_one,Nat.add_zero,List.getD_eq_getElem?_getD,hy];exact .v _
    | c+1,hc=>simp at hc)
  simpa using this
theorem zeB {o:List Dim} (ok:CubeOk o) {p:List Int} (hf:Fit o p):SmallN (ju o) (qA o p):=by
 obtain ⟨_,h2⟩:=ok.out.sizeN;have hA:(ju o).length=sizeN o:=by simp[ju]
 refine ⟨zjk ok hA zjn,by rw[hA];exact yp hf,by omega,fun k => ?_⟩;unfold ju;rw[List.getD_eq_getElem?_getD,getElem?_map];cases (List.range (sizeN o))[k]? with
 | none=>simp
 | some j=>exact zjm ok (qq o j).1
section
variable {S:Seat} (hP:Plain S) (h342:Rt S k342) (h58:Rt S k58) (h49:Rt S k49) (h69:Rt S k69) (h59:Rt S k59) (h343:Rt S k343) (h213:zil S)
include hP h342 h58 h49 h69 h59 h343 h213
theorem r317 (hat:LeafsAt S):Rt S k317:=fun (x:List Dim×List Int) (y:List Int×Err) hy=>by
 obtain ⟨o,p⟩:=x;have hy2:P317 o p=some y:=hy;clear hy;unfold P317 at hy2;split at hy2
 case isFalse=>cases hy2
 rename_i hp;intro g hg;obtain ⟨g342,g58,g49,g69,g59,g343,g213,a342,a58,a49,a69,a59,a343,a213,walk,err1,err2⟩:=hat g hg;show yX S g [.agg [.sl 3 (o.map Dim.cs)],.sl 1 (p.map fun n=>[aI n])] (.tup [.sl 1 (y.1.map fun n=>[aI n]),y.2.av]) [];refine j8 (fun A w vs hvl hA hJR ha => ?_) (by simp[zp]);obtain ⟨v0,v1,rfl⟩:=za3 hvl;obtain ⟨u0,rfl,a0,one⟩:=arg_o (show VR0 S A w (.agg [.sl 3 (o.map Dim.cs)]) v0 from ha 0 _ rfl);have a1:VR0 S A w (.sl 1 (p.map fun n=>[aI n])) v1:=ha 1 _ rfl;have fin:∀ {Z:World},K0' w Z->KeepO S.jg w Z∧S.jn Z:=fun h=>⟨⟨h.os,h.tape,h.output,h.size,fun b hb _=>h.block b hb fun e=>e⟩,hP.n _⟩;have hO:∀ {B:Nat->Prop} {X:World},K0' w X->(∀ b,A b->B b)->VR0 S B X (.agg [.sl 3 (o.map Dim.cs)]) (.agg #[u0]):=fun hX hB=>(ha 0 _ rfl:VR0 S A w _ _).mono hB fun b hb=>hX.block b (hA.1 b hb) fun e=>e;have inv:∀ {X:World},K0' w X->Inv S X:=fun hX=>hA.2.keep (fun _ _ h=>h) hX;have use342:∀ {z:List (List (List Int))×Err},P342 o=some z->∀ X,K0' w X->Calls S.P g342 #[.agg #[u0]] X fun e Y=>∃ mv ev,e=.returned (.tuple #[mv,ev])∧K0' X Y∧VR0 S (zO A (fun _=>none) X Y) Y (encA (.sl (.sl (.sl .int))) z.1) mv∧VR0 S (zO A (fun _=>none) X Y) Y z.2.av ev:=fun {z} hz X hX=>by
  have hret:(za S).ret 342 [.agg [.sl 3 (o.map Dim.cs)]] (.tup [encA (.sl (.sl (.sl .int))) z.1,z.2.av]) []:=h342 o z hz;refine (jX hP a342 hret (by simp[zp]) (A:=A) (w:=w) (X:=X) (vs:=#[.agg #[u0]]) rfl hA hX fun i x hx => ?_).mono ?_
  ·match i,hx with
   | 0,hx=>cases hx;exact ha 0 _ rfl
   | i+1,hx=>simp at hx
  ·rintro e Y ⟨v,rfl,hk,hr⟩;obtain ⟨mv,ev,rfl,r1,r2⟩:=zhD rfl (by cases z.2<;>rfl) hr;exact ⟨mv,ev,rfl,hk,r1,r2⟩
 have use58:∀ {z:Err},P58 o p=some z->∀ X,K0' w X->Calls S.P g58 #[.agg #[u0],v1] X fun e Y=>∃ v,e=.returned v∧K0' X Y∧zb1 S A X Y z.av v:=fun {z} hz X hX=>jX hP a58 (show (za S).ret 58 [.agg [.sl 3 (o.map Dim.cs)],.sl 1 (p.map fun n=>[aI n])] z.av [] from h58 (o,p) z hz) (by simp[zp]) (A:=A) (w:=w) (X:=X) rfl hA hX ha;by_cases hz:(zaD o).2.2=0
 ·have ok:=je.1 hz;rw[if_pos hz] at hy2;by_cases hf0:ja o p=0
  ·have hf:=q9.1 hf0;rw[if_pos hf0] at hy2;split at hy2
   case h_2=>cases hy2
   rename_i out hout;obtain rfl:=Option.some.inj hy2;have hsm:=zeB ok hf;have hAl:(ju o).length=sizeN o:=by simp[ju]
   have hsz:=(ok.out.sizeN).2;unfold zgF at hout;rw[← hAl] at hout;obtain ⟨hS,hN⟩:=h213 g213 a213;refine walk (M:=fun Z mv=>∃ B,(∀ b,B b->b < Z.heap.size)∧(∀ b,A b->B b)∧VR0 S B Z (encA (.sl (.sl (.sl .int))) (o.map yY)) mv) (Q:=fun Z q k=>∃ B,(∀ b,B b->b < Z.heap.size)∧(∀ b,A b->B b)∧VR0 S B Z (.sl 1 ((qq o k).1.map fun n=>[aI n])) q) one hsm hout ?_ ?_ ?_ ?_ ?_ ?_ hS hN ?_
   ·intro X hX;refine (use342 (by rw[zf4,if_pos hz]) X hX).mono ?_;rintro e Y ⟨mv,ev,rfl,hk,r1,r2⟩;refine ⟨mv,by rw[zfq r2],hk,fun Z hZ=>⟨zO A (fun _=>none) X Y,fun b hb=>Nat.lt_of_lt_of_le hb.2.1 hZ.size,fun b hb=>⟨.inl hb,Nat.lt_of_lt_of_le (hA.1 b hb) (Nat.le_trans hX.size hk.size),by simp⟩,r1.mono (fun _ h=>h) fun b hb=>hZ.block b hb.2.1 fun e=>e⟩⟩
   ·intro X hX;refine (use58 (by rw[zeF o p hp,hf0,show zm 0=Err.nil from rfl]) X hX).mono ?_;rintro e Y ⟨v,rfl,hk,hr⟩;exact ⟨by rw[zfq (zeT hr)],hk⟩
   ·intro X hX;have hret:(za S).ret 49 [.agg [.sl 3 (o.map Dim.cs)],.sl 1 (p.map fun n=>[aI n])] (.v (.int .i64 ((qA o p:Nat):Int))) []:=h49 (o,p) ((qA o p:Nat):Int) (show P49 o p=some ((qA o p:Nat):Int) by rw[zhh hf.len (by rw[hf.len];have:=ok.out.len;omega),zc5 ok.out hf]);refine (jX hP a49 hret (by simp[zp]) (A:=A) (w:=w) (X:=X) (vs:=#[.agg #[u0],v1]) rfl hA hX ha).mono ?_;rintro e Y ⟨v,rfl,hk,hr⟩;exact ⟨by rw[ret_v hr],hk⟩
   ·intro X k hX hk;have hret:(za S).ret 69 [.agg [.sl 3 (o.map Dim.cs)],.v (.int .i64 (k:Int))] (.sl 1 ((qq o k).1.map fun n=>[aI n])) []:=h69 (o,(k:Int)) (qq o k).1 (show P69 o k=some (qq o k).1 from P69_eq o k (by have:=ok.out.len;omega) (by omega) fun d hd=>by have:=((ok.out.dims d hd).len);omega);refine (jX hP a69 hret (by simp[zp]) (A:=A) (w:=w) (X:=X) (vs:=#[.agg #[u0],.int .i64 (k:Int)]) rfl hA hX fun i x hx => ?_).mono ?_
    ·match i,hx with
     | 0,hx=>cases hx;exact ha 0 _ rfl
     | 1,hx=>cases hx;exact .v _
     | i+2,hx=>simp at hx
    ·rintro e Y ⟨v,rfl,hkY,hr⟩;refine ⟨v,rfl,hkY,fun Z hZ hs hb=>⟨zO A (fun _=>none) X Y,fun b h=>Nat.lt_of_lt_of_le h.2.1 hs,fun b h=>⟨.inl h,Nat.lt_of_lt_of_le (hA.1 b h) (Nat.le_trans hX.size hkY.size),by simp⟩,(zcW hr).mono (fun _ h=>h) fun b h => ?_⟩⟩;rcases h.1 with h1 | h1
     ·have hbw:=hA.1 b h1;exact (hZ.block b hbw fun e=>e).trans ((hX.trans hkY).block b hbw fun e=>e).symm
     ·exact hb b h.2.1 h1
   ·rintro X q k hX hk ⟨B,hB1,hB2,hq⟩;have hfk:Fit o (qq o k).1:=wt ok.out k;have hret:(za S).ret 59 [.agg [.sl 3 (o.map Dim.cs)],.sl 1 ((qq o k).1.map fun n=>[aI n])] (.v (.bool (jE o (qq o k).1))) []:=h59 (o,(qq o k).1) (jE o (qq o k).1) (show P59 o (qq o k).1=some (jE o (qq o k).1) from zjv hfk (by rw[hfk.len];have:=ok.out.len;omega) fun d hd=>by have:=((ok.out.dims d hd).len);omega);refine (jX hP a59 hret (by simp[zp]) (A:=B) (w:=X) (X:=X) (vs:=#[.agg #[u0],q]) rfl ⟨hB1,inv hX⟩ (KeepO.refl _ _) fun i x hx => ?_).mono ?_
    ·match i,hx with
     | 0,hx=>cases hx;exact hO hX hB2
     | 1,hx=>cases hx;exact hq
     | i+2,hx=>simp at hx
    ·rintro e Y ⟨v,rfl,hkY,hr⟩;exact ⟨by rw[ret_v hr],hkY⟩
   ·rintro X mv q k hX hk ⟨B,hB1,hB2,hm⟩ ⟨C,hC1,hC2,hq⟩;have hfk:Fit o (qq o k).1:=wt ok.out k;have hrow:(ju o).getD k []=zho o (qq o k).1:=(by unfold ju;rw[List.getD_eq_getElem?_getD,getElem?_map,List.getElem?_range (by omega)];rfl);have hret:(za S).ret 343 [.agg [.sl 3 (o.map Dim.cs)],encA (.sl (.sl (.sl .int))) (o.map yY),.sl 1 ((qq o k).1.map fun n=>[aI n])] (.sl 1 ((zho o (qq o k).1).map fun n=>[aI n])) []:=r343s h343 (o,o.map yY,(qq o k).1) (zho o (qq o k).1) (show P343 o (o.map yY) (qq o k).1=some (zho o (qq o k).1) from P343_eq ok hfk);refine (jX hP a343 hret (by simp[zp];rfl) (A:=fun b=>B b∨C b) (w:=X) (X:=X) (vs:=#[.agg #[u0],mv,q]) rfl ⟨fun b hb=>hb.elim (hB1 b) (hC1 b),inv hX⟩ (KeepO.refl _ _) fun i x hx => ?_).mono ?_
    ·match i,hx with
     | 0,hx=>cases hx;exact hO hX fun b hb=>.inl (hB2 b hb)
     | 1,hx=>cases hx;exact hm.mono (fun b h=>.inl h) fun _ _=>rfl
     | 2,hx=>cases hx;exact hq.mono (fun b h=>.inr h) fun _ _=>rfl
     | i+3,hx=>simp at hx
    ·rintro e Y ⟨v,rfl,hkY,hr⟩;refine ⟨v,rfl,hkY, ?_⟩;rw[hrow];exact zgG (fun b h=>h.2.1) (zcW hr)
   ·intro Z v hZ hv;exact ⟨_,rfl,(fin hZ).1,(fin hZ).2,zeS (X:=Z) (e:=.nil) rfl (fresh_fwd hv) (.v _)⟩
  ·have he:zm (ja o p)≠.nil:=fun h=>hf0 (zah.1 h);rw[if_neg hf0] at hy2;obtain rfl:=Option.some.inj hy2;refine err2 one (fun X hX=>(use342 (by rw[zf4,if_pos hz]) X hX).mono ?_) fun X hX=>(use58 (zeF o p hp) X hX).mono ?_
   ·rintro e Y ⟨mv,ev,rfl,hk,r1,r2⟩;exact ⟨mv,by rw[zfq r2],hk⟩
   ·rintro e Z ⟨v,rfl,hk,hr⟩;have hv:=zeT hr;obtain ⟨T,u,rfl⟩:=zfp he hv;have hZ:=hX.trans hk;exact ⟨T,u,rfl,hk,_,rfl,(fin hZ).1,(fin hZ).2,zeS (X:=X) rfl (.slnil 1) (hv.mono (zdH hX.size) fun _ _=>rfl)⟩
 ·have he:zm (zaD o).2.2≠.nil:=fun h=>hz (zah.1 h);rw[if_neg hz] at hy2;obtain rfl:=Option.some.inj hy2;refine err1 one fun X hX=>(use342 (by rw[zf4,if_neg hz]) X hX).mono ?_;rintro e Z ⟨mv,ev,rfl,hk,r1,hv⟩;obtain ⟨T,u,rfl⟩:=zfp he hv;have hZ:=hX.trans hk;exact ⟨mv,T,u,rfl,hk,_,rfl,(fin hZ).1,(fin hZ).2,zeS (X:=X) rfl (.slnil 1) (hv.mono (zdH hX.size) fun _ _=>rfl)⟩
end
end Ab
