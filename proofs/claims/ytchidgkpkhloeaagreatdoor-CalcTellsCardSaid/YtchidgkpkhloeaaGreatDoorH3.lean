import Derived.Test.YtchidgkpkhloeaaGreatDoorF4
import Derived.Test.YtchidgkpkhloeaaGreatDoorHN
import Derived.Test.YtchidgkpkhloeaaGreatDoorH5
set_option linter.all false
noncomputable section
namespace Ab
open Go
section
def byC (o:List Dim) (p:List Int) (b:Int) (i:Nat):Bool:=match o[i]?,p[i]? with
 | some d,some m => !wU d.members m.toNat && (decide (b < 0) || decide ((o.getD b.toNat default).solve < d.solve))
 | _,_=>false
def byN (o:List Dim) (p:List Int):Nat->Int
 | 0 => -1
 | i+1=>if byC o p (byN o p i) i=true then i else byN o p i
def byL (o:List Dim) (p:List Int):Int:=byN o p p.length
def byN_lt (o:List Dim) (p:List Int):∀ i, -1<=byN o p i∧byN o p i < i
 | 0=>⟨by simp[byN],by simp[byN]⟩
 | i+1=>by
  have:=byN_lt o p i;rw[byN];split
  ·exact ⟨by omega,by omega⟩
  ·exact ⟨this.1,by omega⟩
def byN_is (o:List Dim) (p:List Int):∀ i,0<=byN o p i->∃ d m,o[(byN o p i).toNat]? = some d∧p[(byN o p i).toNat]? = some m∧wU d.members m.toNat=false
 | 0,h=>by simp[byN] at h
 | i+1,h=>by
  rw[byN] at h ⊢;split
  ·rename_i hc;unfold byC at hc;split at hc
   ·rename_i d m hd hm;simp only[Ar,A5] at hc;exact ⟨d,m,hd,hm,hc.1⟩
   ·cases hc
  ·rename_i hc;rw[if_neg hc] at h;exact byN_is o p i h
def zj3 {o:List Dim} {p:List Int} (h:0<=byL o p):∃ d m,o[(byL o p).toNat]? = some d∧p[(byL o p).toNat]? = some m∧wU d.members m.toNat=false:=byN_is o p _ h
section
variable {o:List Dim} {p:List Int} (hf:Fit o p) (hl:p.length<=1000) (hd:∀ d∈o,d.members.length<=1000)
include hf hl hd
omit hl in
def by_get {i:Nat} (hi:i < p.length):∃ d k,o[i]? = some d∧p[i]? = some ((k:Nat):Int)∧k < d.members.length∧d.members.length<=1000:=by
 have ho:i < o.length:=by rw[← hf.len];exact hi
 have hm:=Aa hi;have hdd:=Aa ho;have:=hf.mem i _ _ hm hdd;exact ⟨_,p[i].toNat,hdd,by rw[hm];congr 1;omega,by omega,hd _ (Ay ho)⟩
def P353_eq:P353 o p=some (byL o p):=by
 simp only[P353,S353];have hs:=zH (B:=zgc P44 o p) (fun i=>(byN o p i,(i:Int))) p.length (fun i hi=>by
  obtain ⟨d,k,h1,h2,h3,h4⟩:=by_get hf hd hi;have e4:wi ((i:Int)+1)=((i+1:Nat):Int):=by rw[qp (by omega) (by omega)];omega
  have hb:=byN_lt o p i;simp only[zgc];rw[zh,if_pos (by omega)];simp only[za,h1,h2,zi,P44_eq h4 h3];have iW:byC o p (byN o p i) i=(!wU d.members k && (decide (byN o p i < 0) || decide ((o.getD (byN o p i).toNat default).solve < d.solve))):=(by simp only[byC,h1,h2,Aj]);rw[byN,iW];cases wU d.members k with
  | true=>simp[e4]
  | false =>
   by_cases c:byN o p i < 0
   ·simp[c,e4]
   ·have hg:zl o (byN o p i)=some (o.getD (byN o p i).toNat default):=(by rw[zc6 (by omega) (by have:=hf.len;omega),Ad,Aa (by have:=hf.len;omega)];rfl);simp only[hg,BH,zo,zh,if_neg c,zi,zq,zX,e4,decide_eq_false c,Bool.false_or,Bi];by_cases c2:(o.getD (byN o p i).toNat default).solve < d.solve
    ·simp[c2]
    ·simp[c2])
 rw[zV,show ((-1:Int),(0:Int))=(byN o p 0,((0:Nat):Int)) from rfl,hs,zI (y:=(byN o p p.length,(p.length:Int))) (by simp only[zgc];rw[zh,if_neg (by omega)];rfl)];rfl
end
end
section
section
variable {l:List Node} {names:List ByteArray} {cells:List Cell}
def S298_eq {F:ByteArray->Solver->List Int->Int->Dim->Option Cell} {a:Solver×List Int×Int×Dim} (ok:FormOk l) (hc:∀ c∈cells,within c.n=true) (hF:∀ x∈l,x.op=2->F x.name a.1 a.2.1 a.2.2.1 a.2.2.2=some (cells.getD (nmI names x.name).toNat ⟨0,0⟩)) :
  zgw P33 P34 P35 F P8 l a=some ((evL l names cells l.length).getD (l.length - 1) ⟨0,0⟩):=by
 have aW:=ok.pos;have tL:=ok.most;simp only[zgw];rw[zp ⟨by omega,Ca _,by unfold zu;omega⟩];have hs:=zH (B:=wM P33 P34 P35 F P8 l a) (fun i=>((i:Int),evL l names cells i++List.replicate (l.length - i) (Cell.mk 0 0))) l.length (fun i hi=>by
  have hg:=Aa hi;have hE:=wG (l:=l) (names:=names) (cells:=cells) i (by omega);have bG:=ok.node i _ hg;have cW:=zc4 bG;have e4:wi ((i:Int)+1)=((i+1:Nat):Int):=by rw[qp (by omega) (by omega)];omega
  have hL:(evL l names cells i++List.replicate (l.length - i) (Cell.mk 0 0)).length=l.length:=by rw[Bn,hE,BN];omega
  have aH:0<=(i:Int)∧(i:Int) < (((evL l names cells i++List.replicate (l.length - i) (Cell.mk 0 0)).length:Nat):Int):=⟨by omega,by rw[hL];omega⟩;have aq:(evL l names cells i++List.replicate (l.length - i) (Cell.mk 0 0))[i]? = some ⟨0,0⟩:=by
   have hle:(evL l names cells i).length<=i:=by omega
   rw[AN hle,hE,B6,Bv];rw[if_pos (by omega)]
  have bJ:∀ c:Cell,(evL l names cells i++List.replicate (l.length - i) (Cell.mk 0 0)).set i c=evL l names cells i++[c]++List.replicate (l.length - (i+1)) (Cell.mk 0 0):=by
   intro c;obtain ⟨m,hm⟩:∃ m,l.length - i=m+1:=⟨l.length - i - 1,by omega⟩;have hle:(evL l names cells i).length<=i:=by omega
   rw[List.set_append_right _ _ hle,hE,B6,hm,List.replicate_succ,List.set_cons_zero,AW,show l.length - (i+1)=m by omega];rfl
  have get:∀ a:Int,0<=a->a < i->(0<=a∧a < (((evL l names cells i++List.replicate (l.length - i) (Cell.mk 0 0)).length:Nat):Int))∧(evL l names cells i++List.replicate (l.length - i) (Cell.mk 0 0))[a.toNat]? = some ((evL l names cells i).getD a.toNat ⟨0,0⟩):=(by intro a h0 h1;refine ⟨⟨h0,by rw[hL];omega⟩, ?_⟩;rw[AE (by omega),Ad,Aa (by omega)];rfl);rw[zbG hg];simp only[wM];rw[zh,if_pos (by omega)];simp only[za,hg,zi];generalize hx:l[i]=x at hg bG cW;have aM:x∈l:=Ae hg;by_cases c1:x.op=1
  ·simp only[c1,decide_true,zo,P8_eq,zi];rw[zp aH,Aj,aq];simp only[zi,bJ,zq,zX,e4,zaj,c1,if_true];rfl
  by_cases c2:x.op=2
  ·simp only[c1,c2,decide_true,decide_false,zo,zd,hF x aM c2,zi];rw[zp aH,Aj,aq];simp only[zi,bJ,zq,zX,e4,zaj,c1,c2,if_true,if_false,decide_false,zd];simp
  have d1:decide (x.op=1)=false:=decide_eq_false c1;have d2:decide (x.op=2)=false:=decide_eq_false c2;obtain ⟨a1,a2,a3,a4,_⟩:=zdv bG (by omega);obtain ⟨g1,g2⟩:=get x.left a1 a2;obtain ⟨g3,g4⟩:=get x.right a3 a4;have w1:=zhv (l:=l) (names:=names) hc i (by omega) x.left.toNat;by_cases c3:x.op=3
  ·simp only[d1,d2,decide_eq_true c3,zo,zd];rw[zp g1,g2];simp only[zi];rw[zp g3,g4];simp only[zi,P33_eq];rw[zp aH,Aj,aq];simp[bJ,zq,zX,e4,zaj,c1,c2,c3]
  by_cases c4:x.op=4
  ·simp only[d1,d2,decide_eq_false c3,decide_eq_true c4,zo,zd];rw[zp g1,g2];simp only[zi];rw[zp g3,g4];simp only[zi,P33_eq];rw[zp aH,Aj,aq];simp[bJ,zq,zX,e4,zaj,c1,c2,c3,c4]
  by_cases c5:x.op=5
  ·simp only[d1,d2,decide_eq_false c3,decide_eq_false c4,decide_eq_true c5,zo,zd];rw[zp g1,g2];simp only[zi];rw[zp g3,g4];simp only[zi,P34_eq _ w1];rw[zp aH,Aj,aq];simp[bJ,zq,zX,e4,zaj,c1,c2,c3,c4,c5]
  ·simp only[d1,d2,decide_eq_false c3,decide_eq_false c4,decide_eq_false c5,zo,zd];rw[zp g1,g2];simp only[zi];rw[zp g3,g4];simp only[zi,P35_eq];rw[zp aH,Aj,aq];simp[bJ,zq,zX,e4,zaj,c1,c2,c3,c4,c5])
 have e0:((0:Int),List.replicate (Int.toNat ((l.length:Nat):Int)) (Cell.mk (0:Int) (0:Int)))=(((0:Nat):Int),evL l names cells 0++List.replicate (l.length - 0) (Cell.mk 0 0)):=rfl;have e5:wi (((l.length:Nat):Int) - 1)=((l.length - 1:Nat):Int):=by rw[qp (by omega) (by omega)];omega
 rw[zV,e0,hs,zI (y:=(((l.length:Nat):Int),evL l names cells l.length++List.replicate (l.length - l.length) (Cell.mk 0 0))) (by simp only[wM];rw[zh,if_neg (by omega)];rfl)];simp only[zX,e5,B6,CY,BV];have hE:=wG (l:=l) (names:=names) (cells:=cells) l.length (AO _);rw[zp ⟨by omega,by rw[hE];omega⟩,Aj,Ad,Aa (by omega)];rfl
end
end
section
structure CubeOk (o:List Dim):Prop where
 out:OutOk o
 rules:∀ d∈o,(qB d).2=0
def jK {o:List Dim}:(zaZ o).2.2=0↔CubeOk o:=by
 unfold zaZ;by_cases h0:(ja o).2.2=0
 ·rw[if_neg (fun h=>h h0)];cases hs:(List.range o.length).findSome? (zaN o) with
  | some r =>
   obtain ⟨i,hi,hr⟩:=Ax hs;refine ⟨fun h=>absurd h (zjq hr),fun h => ?_⟩;unfold zaN at hr;split at hr
   ·rename_i d hd;rw[if_neg (fun c=>c (h.rules d (Ae hd)))] at hr;cases hr
   ·cases hr
  | none =>
   refine ⟨fun _=>⟨zbs.1 h0,fun d hd => ?_⟩,fun _=>rfl⟩;obtain ⟨i,hi,rfl⟩:=BG hd;have:=A8.1 hs i (AU.2 hi);unfold zaN at this;rw[Aa hi] at this;simp only at this;split at this
   ·cases this
   ·rename_i c;exact A6 c
 ·rw[if_pos h0];exact ⟨fun h=>absurd h h0,fun h=>absurd (zbs.2 h.out) h0⟩
def rules_mem {d:Dim} (h:(qB d).2=0) {i:Nat} (hi:i < d.members.length):zca d i=none:=by
 have h0:(zL d).2=0:=A6 fun h1=>(by rw[show qB d=zL d from if_pos h1] at h;exact h1 h);rw[show qB d=zbm d from if_neg (fun h=>h h0)] at h;unfold zbm at h;cases hs:(List.range d.members.length).findSome? (fun i=>(zca d i).map fun e=>((i:Int),e)) with
 | some r =>rw[hs] at h;obtain ⟨i,_,hi⟩:=Ax hs;obtain ⟨e,he,rfl⟩:=Ag.1 hi;exact absurd h (zfy he)
 | none=>simpa using A8.1 hs i (AU.2 hi)
def zbY {d:Dim} (h:(qB d).2=0) {i:Nat} {m:Member} (hm:d.members[i]? = some m) (hf:m.formula≠⟨#[]⟩):(rdT m.formula).2.2=0:=by
 have:=rules_mem h (Ac.1 hm).1;unfold zca at this;rw[hm] at this;simp only at this;split at this
 ·cases this
 ·rename_i c;exact A6 fun e=>c ⟨hf,e⟩
def drk (d:Dim):Nat->Nat:=open Classical in if h:∃ r:Nat->Nat,(∀ i,i < (jJ d).length->r i < (jJ d).length)∧∀ i,i < (jJ d).length->∀ k∈nd (jJ d) i,r k < r i then h.choose else fun _=>0
def zhC {d:Dim} (h:(qB d).2=0) {i:Nat} (hi:i < d.members.length) {x:Int} (hx:x∈zif d i):∃ k:Nat,x=k∧k < d.members.length∧drk d k < drk d i:=by obtain ⟨hl,hr,ha⟩:=zkD h;have hex:=rank_of hr ha;have hd:∀ i,i < (jJ d).length->∀ k∈nd (jJ d) i,drk d k < drk d i:=(by unfold drk;rw[dif_pos hex];exact hex.choose_spec.2);have hn:x∈(jJ d).getD i []:=(by rw[Ad,oH hi];exact (ww _).2 x |>.2 hx);obtain ⟨h0,h1⟩:=hr i x hn;rw[zaL] at h1;refine ⟨x.toNat,by omega,by omega,hd i (by rw[zaL];exact hi) _ ?_⟩;exact Am.2 ⟨x,hn,rfl⟩
def rkP:List Dim->List Int->Nat
 | d :: o,m :: p=>drk d m.toNat+rkP o p
 | _,_=>0
def rkP_set:∀ (o:List Dim) (p:List Int) (i:Nat) (d:Dim) (m x:Int),o[i]? = some d->p[i]? = some m->drk d x.toNat < drk d m.toNat->rkP o (p.set i x) < rkP o p
 | [],_,_,_,_,_,h,_,_=>by simp at h
 | _ :: _,[],_,_,_,_,_,h,_=>by simp at h
 | d :: o,m :: p,0,d',m',x,h1,h2,h3=>by
  simp only[BU,Option.some.injEq] at h1 h2;subst h1 h2;simp only[List.set_cons_zero,rkP];omega
 | d :: o,m :: p,i+1,d',m',x,h1,h2,h3=>by
  have:=rkP_set o p i d' m' x (by simpa using h1) (by simpa using h2) h3;simp only[C1,rkP];omega
def zch {o:List Dim} {p:List Int} (h:Fit o p) {i:Nat} {d:Dim} {k:Nat} (hd:o[i]? = some d) (hk:k < d.members.length):Fit o (p.set i (k:Int)):=by
 refine ⟨by rw[Ck];exact h.len,fun j m d' hm nP => ?_⟩;rw[BD] at hm;split at hm
 ·rename_i e;subst e;split at hm
  ·cases hm;rw[hd] at nP;cases nP;omega
  ·cases hm
 ·exact h.mem j m d' hm nP
def zbS (o:List Dim) (l:List Entry) (g:List Int->Cell) (p:List Int):Cell :=
 if byL o p < 0 then zhK (getL l p) else
 match o[(byL o p).toNat]?,p[(byL o p).toNat]? with
 | some d,some i=>match d.members[i.toNat]? with
  | some m=>if m.formula=⟨#[]⟩ then (partsOf d.members i).foldl (fun c k=>if sgn d.members k=0 then c else zaQ c (g (p.set (byL o p).toNat k)) (sgn d.members k)) ⟨0,0⟩
   else (evL (rdT m.formula).1 (refsOf (rdT m.formula).1) ((refsOf (rdT m.formula).1).map fun s=>g (p.set (byL o p).toNat (zU d.members s))) (rdT m.formula).1.length).getD ((rdT m.formula).1.length - 1) ⟨0,0⟩
  | none=>⟨0,0⟩
 | _,_=>⟨0,0⟩
def Asks (o:List Dim) (p q:List Int):Prop:=∃ d i x,0<=byL o p∧o[(byL o p).toNat]? = some d∧p[(byL o p).toNat]? = some i∧x∈zif d i.toNat∧q=p.set (byL o p).toNat x
def zdE {α β:Type} {f g:β->α->β}:∀ (l:List α) (b:β),(∀ b,∀ x∈l,f b x=g b x)->l.foldl f b=l.foldl g b
 | [],_,_=>rfl
 | x :: l,b,h=>by rw[Bf,Bf,h b x Ap];exact zdE l _ fun b y hy=>h b y (Af _ hy)
def zie {d:Dim} {i:Nat} {m:Member} (hm:d.members[i]? = some m) (hf:m.formula≠⟨#[]⟩) {s:ByteArray} (hs:s∈refsOf (rdT m.formula).1):zU d.members s∈zif d i:=by obtain ⟨x,hx,h2,rfl⟩:=zb0.1 hs;unfold zif;rw[hm];simp only[if_neg hf];exact Am.2 ⟨x.name,Am.2 ⟨x,Bu.2 ⟨hx,decide_eq_true h2⟩,rfl⟩,rfl⟩
def zjv {d:Dim} {i:Int} (hi:0<=i) {m:Member} (hm:d.members[i.toNat]? = some m) (hf:m.formula=⟨#[]⟩) {k:Int} (hk:k∈partsOf d.members i) (hs:¬ sgn d.members k=0):k∈zif d i.toNat:=by unfold zif cntP2;rw[hm];simp only[if_pos hf];rw[show ((i.toNat:Nat):Int)=i by omega];exact Bu.2 ⟨hk,decide_eq_true hs⟩
def za1 {o:List Dim} {l:List Entry} {g g':List Int->Cell} {p:List Int} (hf:Fit o p) (h:∀ q,Asks o p q->g q=g' q):zbS o l g p=zbS o l g' p:=by
 unfold zbS;split
 ·rfl
 ·rename_i hb;split
  ·rename_i d i hd hi;have hr:=hf.mem _ _ _ hi hd;split
   ·rename_i m hm;split
    ·rename_i nK;refine zdE _ _ fun c k hk => ?_;split
     ·rfl
     ·rename_i hs;rw[h _ ⟨d,i,k,by omega,hd,hi,zjv hr.1 hm nK hk hs,rfl⟩]
    ·rename_i nK;congr 2;refine An fun s hs => ?_;exact h _ ⟨d,i,_,by omega,hd,hi,zie hm nK hs,rfl⟩
   ·rfl
  ·rfl
def solN (o:List Dim) (l:List Entry):Nat->List Int->Cell
 | 0=>fun _=>⟨0,0⟩
 | n+1=>zbS o l (solN o l n)
def sol (o:List Dim) (l:List Entry) (p:List Int):Cell:=solN o l (rkP o p+1) p
section
variable {o:List Dim} {l:List Entry} (ok:CubeOk o)
include ok
def yU {p q:List Int} (hf:Fit o p) (h:Asks o p q):Fit o q∧rkP o q < rkP o p:=by obtain ⟨d,i,x,hb,hd,hi,hx,rfl⟩:=h;have hr:=hf.mem _ _ _ hi hd;obtain ⟨k,rfl,hk,ae⟩:=zhC (ok.rules d (Ae hd)) (i:=i.toNat) (by omega) hx;exact ⟨zch hf hd hk,rkP_set o p _ d i _ hd hi (by simpa using ae)⟩
def solN_eq:∀ (n:Nat) (p:List Int),Fit o p->rkP o p < n->solN o l n p=sol o l p:=by
 intro n
 induction n using Nat.strongRecOn with
 | _ n ih =>
  intro p hf ae;cases n with
  | zero=>omega
  | succ n =>
   show zbS o l (solN o l n) p=zbS o l (solN o l (rkP o p)) p;refine za1 hf fun q hq => ?_;obtain ⟨h1,h2⟩:=yU ok hf hq;rw[ih n (by omega) q h1 (by omega)];by_cases e:rkP o p=n
   ·rw[e,ih n (by omega) q h1 (by omega)]
   ·rw[ih (rkP o p) (by omega) q h1 h2]
def sol_eq {p:List Int} (hf:Fit o p):sol o l p=zbS o l (sol o l) p:=by show zbS o l (solN o l (rkP o p)) p=_;exact za1 hf fun q hq=>solN_eq ok _ q (yU ok hf hq).1 (yU ok hf hq).2
end
def cplus_in (a b:Cell) (s:Int):within (zaQ a b s).n=true:=by
 unfold zaQ
 repeat' split
 all_goals first | rfl | exact zai _
def tellF_in {o:List Dim} {l:List Entry} (hl:∀ e∈l,within e.n=true) {g:List Int->Cell} (hg:∀ q,within (g q).n=true) (p:List Int):within (zbS o l g p).n=true:=by
 have h0:within (0:Int)=true:=rfl;have ba:∀ (l:List Entry),(∀ e∈l,within e.n=true)->within (zhK (getL l p)).n=true:=by
  intro l
  induction l with
  | nil=>intro _;exact h0
  | cons e l ih =>
   intro h;unfold getL;split
   ·exact ih fun e he=>h e (Af _ he)
   ·split
    ·exact h e Ap
    ·exact h0
 have nJ:∀ (L:List Int) (d:Dim) (c:Cell),within c.n=true->within (L.foldl (fun c k=>if sgn d.members k=0 then c else zaQ c (g (p.set (byL o p).toNat k)) (sgn d.members k)) c).n=true:=by
  intro L d
  induction L with
  | nil=>intro c h;exact h
  | cons k L ih =>
   intro c h;rw[Bf];refine ih _ ?_;split
   ·exact h
   ·exact cplus_in _ _ _
 unfold zbS;split
 ·exact ba l hl
 ·split
  ·split
   ·split
    ·exact nJ _ _ _ h0
    ·refine zhv (fun c hc => ?_) _ (AO _) _;obtain ⟨s,_,rfl⟩:=Am.1 hc;exact hg _
   ·exact h0
  ·exact h0
def solN_in {o:List Dim} {l:List Entry} (hl:∀ e∈l,within e.n=true):∀ n p,within (solN o l n p).n=true
 | 0,_=>rfl
 | n+1,p=>tellF_in hl (solN_in hl n) p
def sol_in {o:List Dim} {l:List Entry} (hl:∀ e∈l,within e.n=true) (p:List Int):within (sol o l p).n=true:=solN_in hl _ p
end
section
def fmM (d:Dim) (i:Nat):Option (List Node):=match d.members[i]? with
 | some m=>if m.formula=⟨#[]⟩ then none else some (rdT m.formula).1
 | none=>none
def fmL (o:List Dim):List (List (Option (List Node))):=o.map fun d=>(List.range d.members.length).map (fmM d)
def JS (o:List Dim) (l:List Entry) (kb cb kc cc:Nat):JP:={ s:=⟨o,l,fmL o,kb,cb,kc,cc,sizeN o⟩,fit:=Fit o,num:=wn o,rk:=rkP o,U:=fun k=>sol o l (qJ o k).1 }
def fmL_get {o:List Dim} {i:Nat} {d:Dim} (h:o[i]? = some d):(fmL o)[i]? = some ((List.range d.members.length).map (fmM d)):=by unfold fmL;rw[Ah,h];rfl
def nmI_get {names:List ByteArray} {s:ByteArray} {n:Nat} (h:nmI names s=n) (hn:n < names.length):names[n]=s:=by
 unfold nmI idxOf at h;split at h
 ·rename_i i hi;obtain ⟨h1,h2,_⟩:=Bp.1 hi;obtain rfl:i=n:=by omega
  exact of_decide_eq_true h2
 ·omega
structure RightC (o:List Dim) (l:List Entry):Prop where
 cube:CubeOk o
 ents:EntsOk o l
 len:Lst Entry.gd l
def RightC.pos {o:List Dim} {l:List Entry} (h:RightC o l):∀ d∈o,0 < d.members.length:=fun d hd=>((h.cube.out.dims d hd).len).1
def RightC.most {o:List Dim} {l:List Entry} (h:RightC o l):∀ d∈o,d.members.length<=12:=fun d hd=>((h.cube.out.dims d hd).len).2
def RightC.val {o:List Dim} {l:List Entry} (h:RightC o l):∀ e∈l,within e.n=true:=fun e he=>by
 have:=h.ents.val e he;unfold zbR at this;simp only[Ar,decide_eq_true_eq] at this;simp[within];omega
section
variable {o:List Dim} {l:List Entry} (ok:RightC o l) {kb cb kc cc:Nat}
include ok
def P351_JS {n:Nat} {q:List Int} (hf:Fit o q) (hr:rkP o q < n):zli (JS o l kb cb kc cc) n (JS o l kb cb kc cc).s q=some (sol o l q):=by unfold zli;rw[if_pos ⟨rfl,hf,hr⟩];show some (sol o l (qJ o (wn o q)).1)=_;rw[wy ok.pos hf]
def P364_JS {n:Nat} {p:List Int} {i k:Nat} {d:Dim} {s:ByteArray} (hf:Fit o p) (hd:o[i]? = some d) (hw:zU d.members s=k) (hk:k < d.members.length) (hr:rkP o (p.set i (k:Int)) < n) :
  P364 (JS o l kb cb kc cc) n s (JS o l kb cb kc cc).s p (i:Int) d=some (sol o l (p.set i (zU d.members s))):=by
 have hl:=ok.cube.out.len;have hi:i < p.length:=by rw[hf.len];exact (Ac.1 hd).1
 have hm:=ok.most d (Ae hd);simp only[P364,S364,P37_eq _ _ (show d.members.length<=9223372036854775807 by omega),zi,hw,P70_eq p i k hi (by rw[hf.len];omega),P351_JS ok (zch hf hd hk) hr]
def P361_JS {p:List Int} (hf:Fit o p):P361 (JS o l kb cb kc cc) (rkP o p) (JS o l kb cb kc cc).s p=some (sol o l p):=by
 have hl:=ok.cube.out.len;have hlen:=hf.len;have fN:=ok.most;rw[sol_eq ok.cube hf];unfold zbS;simp only[P361,S361];rw[show Solver.o (JS o l kb cb kc cc).s=o from rfl,show Solver.l (JS o l kb cb kc cc).s=l from rfl,show Solver.f (JS o l kb cb kc cc).s=fmL o from rfl];rw[P353_eq hf (by omega) fun d hd=>by have:=fN d hd;omega];simp only[zi];rw[zh];by_cases hb:byL o p < 0
 ·rw[if_pos hb,if_pos hb,P57_eq (ris_of ok.ents.rise) ok.len (by omega)];rfl
 rw[if_neg hb,if_neg hb];obtain ⟨d,i,hd,hi,_⟩:=zj3 (show 0<=byL o p by omega);obtain ⟨b,fL⟩:∃ b:Nat,byL o p=b:=⟨(byL o p).toNat,by omega⟩;rw[fL] at hd hi ⊢;simp only[Aj] at hd hi ⊢;have hr:=hf.mem _ _ _ hi hd;obtain ⟨j,rfl⟩:∃ j:Nat,i=j:=⟨i.toNat,by omega⟩;have hj:j < d.members.length:=by omega
 have hm:=Aa hj;have dt:=Ae hd;have eX:=ok.cube.rules d dt;have sB:=fN d dt;have nK:((List.range d.members.length).map (fmM d))[j]? = some (fmM d j):=by rw[Ah,A4 hj];rfl
 simp only[za,hd,fmL_get hd,hi,zi,nK,Aj,hm];have ask:∀ x,x∈zif d j->Asks o p (p.set b x):=fun x hx=>⟨d,j,x,by omega,by rw[fL];exact hd,by rw[fL];exact hi,by simpa using hx,by rw[fL];rfl⟩;by_cases cX:(d.members[j]).formula=⟨#[]⟩
 ·have e1:fmM d j=none:=by unfold fmM;rw[hm];simp only[if_pos cX]
  rw[e1,if_pos cX];simp only[Option.isSome_none,zd,n7 rfl];rw[P47_eq (show d.members.length<=1000 by omega)];simp only[zi];have gm:(partsOf d.members j).length<=1000:=Aw (zaz _ _) (by omega);generalize hF:(fun (c:Cell) (k:Int)=>if sgn d.members k=0 then c else zaQ c (sol o l (p.set b k)) (sgn d.members k))=F;have hs:=zH (B:=zf9 P33 (zli (JS o l kb cb kc cc) (rkP o p)) P70 (JS o l kb cb kc cc).s p (b:Int) d (partsOf d.members j)) (fun i=>((i:Int),(((partsOf d.members j).take i).foldl F ⟨0,0⟩).k,(((partsOf d.members j).take i).foldl F ⟨0,0⟩).n)) (partsOf d.members j).length (fun i aA=>by
   have hx:=Aa aA;have aM:=Ay aA;generalize hc:((partsOf d.members j).take i).foldl F ⟨0,0⟩=c;rw[jq F ⟨0,0⟩ _ hx,hc];generalize (partsOf d.members j)[i]=x at hx aM;obtain ⟨k,rfl,hk⟩:=zas aM;have nu:=Aa hk;have fH:sgn d.members (k:Int)=(d.members[k]).sign:=by unfold sgn;rw[Aj,nu]
   have e4:wi ((i:Int)+1)=((i+1:Nat):Int):=by rw[qp (by omega) (by omega)];omega
   simp only[zf9];rw[zh,if_pos (by omega)];simp only[za,hx,nu,zi];rw[← hF];simp only[fH];by_cases h0:(d.members[k]).sign=0
   ·simp only[h0,not_true,decide_false,zd,zq,zX,e4,if_true];rfl
   ·have gl:=zjv (d:=d) (i:=(j:Int)) (by omega) (by simpa using hm) cX aM (by rw[fH];exact h0);obtain ⟨tH,bA⟩:=yU ok.cube hf (ask _ (by simpa using gl));have gQ:b < p.length:=(Ac.1 hi).1;simp only[h0,not_false_eq_true,decide_true,zo,P70_eq p b k gQ (by omega),zi,P351_JS ok tH bA,P33_eq,zq,zX,e4,if_false]
    rfl)
  rw[zV,show ((0:Int),((0:Int),(0:Int)))=(((0:Nat):Int),(((partsOf d.members j).take 0).foldl F ⟨0,0⟩).k,(((partsOf d.members j).take 0).foldl F ⟨0,0⟩).n) from rfl,hs];rw[zI (y:=(((partsOf d.members j).length:Int),(((partsOf d.members j).take (partsOf d.members j).length).foldl F ⟨0,0⟩).k,(((partsOf d.members j).take (partsOf d.members j).length).foldl F ⟨0,0⟩).n)) (by simp only[zf9];rw[zh,if_neg (by omega)];rfl)];simp only[zX,AZ]
 ·have e1:fmM d j=some (rdT (d.members[j]).formula).1:=by unfold fmM;rw[hm];simp only[if_neg cX]
  have aX:=rdT_ok (zbY eX hm cX);rw[e1,if_neg cX];have aW:=aX.pos;have ai:(!(rdT (d.members[j]).formula).1.isEmpty)=true:=by
   cases hh:(rdT (d.members[j]).formula).1 with
   | nil=>rw[hh] at aW;simp at aW
   | cons=>rfl
  simp only[Option.isSome_some,zo,AY,n7 ai];simp only[zgH]
  have key:=S298_eq (F:=P364 (JS o l kb cb kc cc) (rkP o p)) (a:=((JS o l kb cb kc cc).s,p,(b:Int),d)) (l:=(rdT (d.members[j]).formula).1) (names:=refsOf (rdT (d.members[j]).formula).1) (cells:=(refsOf (rdT (d.members[j]).formula).1).map fun s=>sol o l (p.set b (zU d.members s))) aX (fun c hc=>by
    obtain ⟨s,_,rfl⟩:=Am.1 hc;exact sol_in ok.val _) (fun x hx h2=>by
    have aK:x.name∈refsOf (rdT (d.members[j]).formula).1:=zb0.2 ⟨x,hx,h2,rfl⟩;have gl:=zie hm cX aK;obtain ⟨k,bS,bB,nE⟩:=zhC eX hj gl;obtain ⟨tH,bA⟩:=yU ok.cube hf (ask _ gl);rw[bS] at bA;rw[P364_JS ok hf hd bS bB bA];obtain ⟨n,eG,kC⟩:=nmI_in aK;rw[eG,Aj,Ad,Ah,Aa kC];simp only[AA,AY];rw[nmI_get eG kC])
  rw[key];rfl
def jok (ai:kb≠cb):JOk (JS o l kb cb kc cc):=by
 have hl:=ok.cube.out.len;refine ⟨fun p hf=>⟨?_,zbt hf⟩,fun p hf => ?_,ai⟩
 ·show P49 o p=_;rw[P49_eq hf.len (by rw[hf.len];omega),zii ok.cube.out hf];rfl
 ·rw[show (JS o l kb cb kc cc).U ((JS o l kb cb kc cc).num p)=sol o l (qJ o (wn o p)).1 from rfl,wy ok.pos hf];exact P361_JS ok hf
end
end
end Ab
