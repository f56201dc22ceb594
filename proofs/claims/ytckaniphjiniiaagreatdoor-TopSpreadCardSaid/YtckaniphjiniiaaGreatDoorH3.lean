import Derived.Test.YtckaniphjiniiaaGreatDoorH5
import Derived.Test.YtckaniphjiniiaaGreatDoorS3
set_option linter.all false
noncomputable section
namespace Ab
open Go
section
def byC (o:List Dim) (p:List Int) (b:Int) (i:Nat):Bool:=match o[i]?,p[i]? with
 | some d,some m => !yi d.members m.toNat && (decide (b<0) || decide ((o.getD b.toNat default).solve<d.solve))
 | _,_=>false
def byN (o:List Dim) (p:List Int):Nat->Int
 | 0 => -1
 | i+1=>if byC o p (byN o p i) i=true then i else byN o p i
def byL (o:List Dim) (p:List Int):Int:=byN o p p.length
def byN_lt (o:List Dim) (p:List Int):∀i, -1<=byN o p i∧byN o p i<i
 | 0=>⟨by simp[byN],by simp[byN]⟩
 | i+1=>by
  have:=byN_lt o p i;rw[byN];split
  ·exact⟨by omega,by omega⟩
  ·exact⟨this.1,by omega⟩
def byN_is (o:List Dim) (p:List Int):∀i,0<=byN o p i->∃d m,o[(byN o p i).toNat]? = some d∧p[(byN o p i).toNat]? = some m∧yi d.members m.toNat=false
 | 0,h=>by simp[byN] at h
 | i+1,h=>by
  rw[byN] at h ⊢;split
  ·rename_i hc;unfold byC at hc;split at hc
   ·rename_i d m hd hm;simp only[Ai,AU] at hc;exact⟨d,m,hd,hm,hc.1⟩
   ·cases hc
  ·rename_i hc;rw[if_neg hc] at h;exact byN_is o p i h
def byL_is {o:List Dim} {p:List Int} (h:0<=byL o p):∃d m,o[(byL o p).toNat]? = some d∧p[(byL o p).toNat]? = some m∧yi d.members m.toNat=false:=byN_is o p _ h
section
variable {o:List Dim} {p:List Int} (hf:Fit o p) (hl:p.length<=1000) (hd:∀d∈o,d.members.length<=1000)
include hf hl hd
omit hl in
def by_get {i:Nat} (hi:i<p.length):∃d k,o[i]? = some d∧p[i]? = some ((k:Nat):Int)∧k<d.members.length∧d.members.length<=1000:=by
 have ho:i<o.length:=by rw[←hf.len];exact hi
 have hm:=Aa hi;have hdd:=Aa ho;have:=hf.mem i _ _ hm hdd;exact⟨_,p[i].toNat,hdd,by rw[hm];congr 1;omega,by omega,hd _ (Ay ho)⟩
def P353_eq:P353 o p=some (byL o p):=by
 simp only[P353,S353];have hs:=zP (B:=zhM P44 o p) (fun i=>(byN o p i,(i:Int))) p.length (fun i hi=>by
  obtain⟨d,k,h1,h2,h3,h4⟩:=by_get hf hd hi;have e4:wi ((i:Int)+1)=((i+1:Nat):Int):=by rw[zR (by omega) (by omega)];omega
  have hb:=byN_lt o p i;simp only[zhM];rw[zJ,if_pos (by omega)];simp only[zg,h1,h2,zj,P44_eq h4 h3];have mF:byC o p (byN o p i) i=(!yi d.members k && (decide (byN o p i<0) || decide ((o.getD (byN o p i).toNat default).solve<d.solve))):=(by simp only[byC,h1,h2,Ap]);rw[byN,mF];cases yi d.members k with
  | true=>simp[e4]
  | false =>
   by_cases c:byN o p i<0
   ·simp[c,e4]
   ·have hg:zu o (byN o p i)=some (o.getD (byN o p i).toNat default):=(by rw[zbZ (by omega) (by have:=hf.len;omega),An,Aa (by have:=hf.len;omega)];rfl);simp only[hg,BN,ze,zJ,if_neg c,zj,zx,zY,e4,decide_eq_false c,Bool.false_or,Bv];by_cases c2:(o.getD (byN o p i).toNat default).solve<d.solve
    ·simp[c2]
    ·simp[c2])
 rw[zW,show ((-1:Int),(0:Int))=(byN o p 0,((0:Nat):Int)) from rfl,hs,zF (y:=(byN o p p.length,(p.length:Int))) (by simp only[zhM];rw[zJ,if_neg (by omega)];rfl)];rfl
end
end
section
section
variable {l:List Node} {names:List ByteArray} {cells:List Cell}
def S298_eq {F:ByteArray->Solver->List Int->Int->Dim->Option Cell} {a:Solver×List Int×Int×Dim} (ok:FormOk l) (hc:∀c∈cells,within c.n=true) (hF:∀x∈l,x.op=2->F x.name a.1 a.2.1 a.2.2.1 a.2.2.2=some (cells.getD (nmI names x.name).toNat ⟨0,0⟩)) :
  zhR P33 P34 P35 F P8 l a=some ((evL l names cells l.length).getD (l.length-1) ⟨0,0⟩):=by
 have aO:=ok.pos;have tD:=ok.most;simp only[zhR];rw[zm ⟨by omega,C4 _,by unfold zC;omega⟩];have hs:=zP (B:=zan P33 P34 P35 F P8 l a) (fun i=>((i:Int),evL l names cells i++List.replicate (l.length-i) (Cell.mk 0 0))) l.length (fun i hi=>by
  have hg:=Aa hi;have hE:=zcH (l:=l) (names:=names) (cells:=cells) i (by omega);have dw:=ok.node i _ hg;have dO:=zgW dw;have e4:wi ((i:Int)+1)=((i+1:Nat):Int):=by rw[zR (by omega) (by omega)];omega
  have hL:(evL l names cells i++List.replicate (l.length-i) (Cell.mk 0 0)).length=l.length:=by rw[AB,hE,BV];omega
  have bd:0<=(i:Int)∧(i:Int)<(((evL l names cells i++List.replicate (l.length-i) (Cell.mk 0 0)).length:Nat):Int):=⟨by omega,by rw[hL];omega⟩;have ba:(evL l names cells i++List.replicate (l.length-i) (Cell.mk 0 0))[i]? = some ⟨0,0⟩:=by
   have hle:(evL l names cells i).length<=i:=by omega
   rw[AM hle,hE,Ck,B3];rw[if_pos (by omega)]
  have bt:∀c:Cell,(evL l names cells i++List.replicate (l.length-i) (Cell.mk 0 0)).set i c=evL l names cells i++[c]++List.replicate (l.length-(i+1)) (Cell.mk 0 0):=by
   intro c;obtain⟨m,hm⟩:∃m,l.length-i=m+1:=⟨l.length-i-1,by omega⟩;have hle:(evL l names cells i).length<=i:=by omega
   rw[List.set_append_right _ _ hle,hE,Ck,hm,List.replicate_succ,DF,AP,show l.length-(i+1)=m by omega];rfl
  have get:∀a:Int,0<=a->a<i->(0<=a∧a<(((evL l names cells i++List.replicate (l.length-i) (Cell.mk 0 0)).length:Nat):Int))∧(evL l names cells i++List.replicate (l.length-i) (Cell.mk 0 0))[a.toNat]? = some ((evL l names cells i).getD a.toNat ⟨0,0⟩):=(by intro a h0 h1;refine⟨⟨h0,by rw[hL];omega⟩, ?_⟩;rw[AG (by omega),An,Aa (by omega)];rfl);rw[zhc hg];simp only[zan];rw[zJ,if_pos (by omega)];simp only[zg,hg,zj];generalize hx:l[i]=x at hg dw dO;have aP:x∈l:=Ae hg;by_cases c1:x.op=1
  ·simp only[c1,decide_true,ze,P8_eq,zj];rw[zm bd,Ap,ba];simp only[zj,bt,zx,zY,e4,zfE,c1,if_true];rfl
  by_cases c2:x.op=2
  ·simp only[c1,c2,decide_true,decide_false,ze,za,hF x aP c2,zj];rw[zm bd,Ap,ba];simp only[zj,bt,zx,zY,e4,zfE,c1,c2,if_true,if_false,decide_false,za];simp
  have d1:decide (x.op=1)=false:=decide_eq_false c1;have d2:decide (x.op=2)=false:=decide_eq_false c2;obtain⟨a1,a2,a3,a4,_⟩:=ziv dw (by omega);obtain⟨g1,g2⟩:=get x.left a1 a2;obtain⟨g3,g4⟩:=get x.right a3 a4;have w1:=evL_in (l:=l) (names:=names) hc i (by omega) x.left.toNat;by_cases c3:x.op=3
  ·simp only[d1,d2,decide_eq_true c3,ze,za];rw[zm g1,g2];simp only[zj];rw[zm g3,g4];simp only[zj,P33_eq];rw[zm bd,Ap,ba];simp[bt,zx,zY,e4,zfE,c1,c2,c3]
  by_cases c4:x.op=4
  ·simp only[d1,d2,decide_eq_false c3,decide_eq_true c4,ze,za];rw[zm g1,g2];simp only[zj];rw[zm g3,g4];simp only[zj,P33_eq];rw[zm bd,Ap,ba];simp[bt,zx,zY,e4,zfE,c1,c2,c3,c4]
  by_cases c5:x.op=5
  ·simp only[d1,d2,decide_eq_false c3,decide_eq_false c4,decide_eq_true c5,ze,za];rw[zm g1,g2];simp only[zj];rw[zm g3,g4];simp only[zj,P34_eq _ w1];rw[zm bd,Ap,ba];simp[bt,zx,zY,e4,zfE,c1,c2,c3,c4,c5]
  ·simp only[d1,d2,decide_eq_false c3,decide_eq_false c4,decide_eq_false c5,ze,za];rw[zm g1,g2];simp only[zj];rw[zm g3,g4];simp only[zj,P35_eq];rw[zm bd,Ap,ba];simp[bt,zx,zY,e4,zfE,c1,c2,c3,c4,c5])
 have e0:((0:Int),List.replicate (Int.toNat ((l.length:Nat):Int)) (Cell.mk (0:Int) (0:Int)))=(((0:Nat):Int),evL l names cells 0++List.replicate (l.length-0) (Cell.mk 0 0)):=rfl;have e5:wi (((l.length:Nat):Int)-1)=((l.length-1:Nat):Int):=by rw[zR (by omega) (by omega)];omega
 rw[zW,e0,hs,zF (y:=(((l.length:Nat):Int),evL l names cells l.length++List.replicate (l.length-l.length) (Cell.mk 0 0))) (by simp only[zan];rw[zJ,if_neg (by omega)];rfl)];simp only[zY,e5,Ck,DA,Bl];have hE:=zcH (l:=l) (names:=names) (cells:=cells) l.length (Az _);rw[zm ⟨by omega,by rw[hE];omega⟩,Ap,An,Aa (by omega)];rfl
end
end
section
def rules_mem {d:Dim} (h:(qQ d).2=0) {i:Nat} (hi:i<d.members.length):cL d i=none:=by
 have h0:(qw d).2=0:=Ba fun h1=>(by rw[show qQ d=qw d from if_pos h1] at h;exact h1 h);rw[show qQ d=zbP d from if_neg (fun h=>h h0)] at h;unfold zbP at h;cases hs:(List.range d.members.length).findSome? (fun i=>(cL d i).map fun e=>((i:Int),e)) with
 | some r =>rw[hs] at h;obtain⟨i,_,hi⟩:=AO hs;obtain⟨e,he,rfl⟩:=Ag.1 hi;exact absurd h (nY he)
 | none=>simpa using A9.1 hs i (AR.2 hi)
def zfQ {d:Dim} (h:(qQ d).2=0) {i:Nat} {m:Member} (hm:d.members[i]? = some m) (hf:m.formula≠⟨#[]⟩):(rdT m.formula).2.2=0:=by
 have:=rules_mem h (Ac.1 hm).1;unfold cL at this;rw[hm] at this;simp only at this;split at this
 ·cases this
 ·rename_i c;exact Ba fun e=>c ⟨hf,e⟩
def drk (d:Dim):Nat->Nat:=open Classical in if h:∃r:Nat->Nat,(∀i,i<(zcT d).length->r i<(zcT d).length)∧∀i,i<(zcT d).length->∀k∈nd (zcT d) i,r k<r i then h.choose else fun _=>0
def drk_lt {d:Dim} (h:(qQ d).2=0) {i:Nat} (hi:i<d.members.length) {x:Int} (hx:x∈zjT d i):∃k:Nat,x=k∧k<d.members.length∧drk d k<drk d i:=by obtain⟨hl,hr,ha⟩:=zme h;have hex:=rank_of hr ha;have hd:∀i,i<(zcT d).length->∀k∈nd (zcT d) i,drk d k<drk d i:=(by unfold drk;rw[dif_pos hex];exact hex.choose_spec.2);have hn:x∈(zcT d).getD i []:=(by rw[An,zlM hi];exact (zgA _).2 x |>.2 hx);obtain⟨h0,h1⟩:=hr i x hn;rw[zdR] at h1;refine⟨x.toNat,by omega,by omega,hd i (by rw[zdR];exact hi) _ ?_⟩;exact Al.2 ⟨x,hn,rfl⟩
def rkP:List Dim->List Int->Nat
 | d::o,m::p=>drk d m.toNat+rkP o p
 | _,_=>0
def rkP_set:∀(o:List Dim) (p:List Int) (i:Nat) (d:Dim) (m x:Int),o[i]? = some d->p[i]? = some m->drk d x.toNat<drk d m.toNat->rkP o (p.set i x)<rkP o p
 | [],_,_,_,_,_,h,_,_=>by simp at h
 | _::_,[],_,_,_,_,_,h,_=>by simp at h
 | d::o,m::p,0,d',m',x,h1,h2,h3=>by
  simp only[B4,DM] at h1 h2;subst h1 h2;simp only[DF,rkP];omega
 | d::o,m::p,i+1,d',m',x,h1,h2,h3=>by
  have:=rkP_set o p i d' m' x (by simpa using h1) (by simpa using h2) h3;simp only[CU,rkP];omega
def zeF {o:List Dim} {p:List Int} (h:Fit o p) {i:Nat} {d:Dim} {k:Nat} (hd:o[i]? = some d) (hk:k<d.members.length):Fit o (p.set i (k:Int)):=by
 refine⟨by rw[Cc];exact h.len,fun j m d' hm ka => ?_⟩;rw[B2] at hm;split at hm
 ·rename_i e;subst e;split at hm
  ·cases hm;rw[hd] at ka;cases ka;omega
  ·cases hm
 ·exact h.mem j m d' hm ka
def zbK (o:List Dim) (l:List Entry) (g:List Int->Cell) (p:List Int):Cell :=
 if byL o p<0 then zkq (bB l p) else
 match o[(byL o p).toNat]?,p[(byL o p).toNat]? with
 | some d,some i=>match d.members[i.toNat]? with
  | some m=>if m.formula=⟨#[]⟩ then (partsOf d.members i).foldl (fun c k=>if sgn d.members k=0 then c else zbb c (g (p.set (byL o p).toNat k)) (sgn d.members k)) ⟨0,0⟩
   else (evL (rdT m.formula).1 (refsOf (rdT m.formula).1) ((refsOf (rdT m.formula).1).map fun s=>g (p.set (byL o p).toNat (jO d.members s))) (rdT m.formula).1.length).getD ((rdT m.formula).1.length-1) ⟨0,0⟩
  | none=>⟨0,0⟩
 | _,_=>⟨0,0⟩
def Asks (o:List Dim) (p q:List Int):Prop:=∃d i x,0<=byL o p∧o[(byL o p).toNat]? = some d∧p[(byL o p).toNat]? = some i∧x∈zjT d i.toNat∧q=p.set (byL o p).toNat x
def zbu {α β:Type} {f g:β->α->β}:∀(l:List α) (b:β),(∀b,∀x∈l,f b x=g b x)->l.foldl f b=l.foldl g b
 | [],_,_=>rfl
 | x::l,b,h=>by rw[Be,Be,h b x Ak];exact zbu l _ fun b y hy=>h b y (Ad _ hy)
def ref_raw {d:Dim} {i:Nat} {m:Member} (hm:d.members[i]? = some m) (hf:m.formula≠⟨#[]⟩) {s:ByteArray} (hs:s∈refsOf (rdT m.formula).1):jO d.members s∈zjT d i:=by obtain⟨x,hx,h2,rfl⟩:=zfT.1 hs;unfold zjT;rw[hm];simp only[if_neg hf];exact Al.2 ⟨x.name,Al.2 ⟨x,BH.2 ⟨hx,decide_eq_true h2⟩,rfl⟩,rfl⟩
def sj {d:Dim} {i:Int} (hi:0<=i) {m:Member} (hm:d.members[i.toNat]? = some m) (hf:m.formula=⟨#[]⟩) {k:Int} (hk:k∈partsOf d.members i) (hs:¬sgn d.members k=0):k∈zjT d i.toNat:=by unfold zjT cntP2;rw[hm];simp only[if_pos hf];rw[show ((i.toNat:Nat):Int)=i by omega];exact BH.2 ⟨hk,decide_eq_true hs⟩
def sV {o:List Dim} {l:List Entry} {g g':List Int->Cell} {p:List Int} (hf:Fit o p) (h:∀q,Asks o p q->g q=g' q):zbK o l g p=zbK o l g' p:=by
 unfold zbK;split
 ·rfl
 ·rename_i hb;split
  ·rename_i d i hd hi;have hr:=hf.mem _ _ _ hi hd;split
   ·rename_i m hm;split
    ·rename_i mv;refine zbu _ _ fun c k hk => ?_;split
     ·rfl
     ·rename_i hs;rw[h _ ⟨d,i,k,by omega,hd,hi,sj hr.1 hm mv hk hs,rfl⟩]
    ·rename_i mv;congr 2;refine Am fun s hs => ?_;exact h _ ⟨d,i,_,by omega,hd,hi,ref_raw hm mv hs,rfl⟩
   ·rfl
  ·rfl
def solN (o:List Dim) (l:List Entry):Nat->List Int->Cell
 | 0=>fun _=>⟨0,0⟩
 | n+1=>zbK o l (solN o l n)
def sol (o:List Dim) (l:List Entry) (p:List Int):Cell:=solN o l (rkP o p+1) p
section
variable {o:List Dim} {l:List Entry} (ok:CubeOk o)
include ok
def zfa {p q:List Int} (hf:Fit o p) (h:Asks o p q):Fit o q∧rkP o q<rkP o p:=by obtain⟨d,i,x,hb,hd,hi,hx,rfl⟩:=h;have hr:=hf.mem _ _ _ hi hd;obtain⟨k,rfl,hk,aj⟩:=drk_lt (ok.rules d (Ae hd)) (i:=i.toNat) (by omega) hx;exact⟨zeF hf hd hk,rkP_set o p _ d i _ hd hi (by simpa using aj)⟩
def solN_eq:∀(n:Nat) (p:List Int),Fit o p->rkP o p<n->solN o l n p=sol o l p:=by
 intro n
 induction n using Nat.strongRecOn with
 | _ n ih =>
  intro p hf aj;cases n with
  | zero=>omega
  | succ n =>
   show zbK o l (solN o l n) p=zbK o l (solN o l (rkP o p)) p;refine sV hf fun q hq => ?_;obtain⟨h1,h2⟩:=zfa ok hf hq;rw[ih n (by omega) q h1 (by omega)];by_cases e:rkP o p=n
   ·rw[e,ih n (by omega) q h1 (by omega)]
   ·rw[ih (rkP o p) (by omega) q h1 h2]
def zkY {p:List Int} (hf:Fit o p):sol o l p=zbK o l (sol o l) p:=by show zbK o l (solN o l (rkP o p)) p=_;exact sV hf fun q hq=>solN_eq ok _ q (zfa ok hf hq).1 (zfa ok hf hq).2
end
def cplus_in (a b:Cell) (s:Int):within (zbb a b s).n=true:=by
 unfold zbb
 repeat' split
 all_goals first|rfl|exact zaL _
def tellF_in {o:List Dim} {l:List Entry} (hl:∀e∈l,within e.n=true) {g:List Int->Cell} (hg:∀q,within (g q).n=true) (p:List Int):within (zbK o l g p).n=true:=by
 have h0:within (0:Int)=true:=rfl;have aZ:∀(l:List Entry),(∀e∈l,within e.n=true)->within (zkq (bB l p)).n=true:=by
  intro l
  induction l with
  | nil=>intro _;exact h0
  | cons e l ih =>
   intro h;unfold bB;split
   ·exact ih fun e he=>h e (Ad _ he)
   ·split
    ·exact h e Ak
    ·exact h0
 have fT:∀(L:List Int) (d:Dim) (c:Cell),within c.n=true->within (L.foldl (fun c k=>if sgn d.members k=0 then c else zbb c (g (p.set (byL o p).toNat k)) (sgn d.members k)) c).n=true:=by
  intro L d
  induction L with
  | nil=>intro c h;exact h
  | cons k L ih =>
   intro c h;rw[Be];refine ih _ ?_;split
   ·exact h
   ·exact cplus_in _ _ _
 unfold zbK;split
 ·exact aZ l hl
 ·split
  ·split
   ·split
    ·exact fT _ _ _ h0
    ·refine evL_in (fun c hc => ?_) _ (Az _) _;obtain⟨s,_,rfl⟩:=Al.1 hc;exact hg _
   ·exact h0
  ·exact h0
def solN_in {o:List Dim} {l:List Entry} (hl:∀e∈l,within e.n=true):∀n p,within (solN o l n p).n=true
 | 0,_=>rfl
 | n+1,p=>tellF_in hl (solN_in hl n) p
def sol_in {o:List Dim} {l:List Entry} (hl:∀e∈l,within e.n=true) (p:List Int):within (sol o l p).n=true:=solN_in hl _ p
end
section
def fmM (d:Dim) (i:Nat):Option (List Node):=match d.members[i]? with
 | some m=>if m.formula=⟨#[]⟩ then none else some (rdT m.formula).1
 | none=>none
def fmL (o:List Dim):List (List (Option (List Node))):=o.map fun d=>(List.range d.members.length).map (fmM d)
def JS (o:List Dim) (l:List Entry) (kb cb kc cc:Nat):JP:={ s:=⟨o,l,fmL o,kb,cb,kc,cc,sizeN o⟩,fit:=Fit o,num:=zci o,rk:=rkP o,U:=fun k=>sol o l (jw o k).1 }
def fmL_get {o:List Dim} {i:Nat} {d:Dim} (h:o[i]? = some d):(fmL o)[i]? = some ((List.range d.members.length).map (fmM d)):=by unfold fmL;rw[As,h];rfl
def nmI_get {names:List ByteArray} {s:ByteArray} {n:Nat} (h:nmI names s=n) (hn:n<names.length):names[n]=s:=by
 unfold nmI idxOf at h;split at h
 ·rename_i i hi;obtain⟨h1,h2,_⟩:=BJ.1 hi;obtain rfl:i=n:=by omega
  exact of_decide_eq_true h2
 ·omega
structure RightC (o:List Dim) (l:List Entry):Prop where
 cube:CubeOk o
 ents:EntsOk o l
 len:Lst Entry.gd l
def RightC.pos {o:List Dim} {l:List Entry} (h:RightC o l):∀d∈o,0<d.members.length:=fun d hd=>((h.cube.out.dims d hd).len).1
def RightC.most {o:List Dim} {l:List Entry} (h:RightC o l):∀d∈o,d.members.length<=12:=fun d hd=>((h.cube.out.dims d hd).len).2
def RightC.val {o:List Dim} {l:List Entry} (h:RightC o l):∀e∈l,within e.n=true:=fun e he=>by
 have:=h.ents.val e he;unfold jP at this;simp only[Ai,decide_eq_true_eq] at this;simp[within];omega
section
variable {o:List Dim} {l:List Entry} (ok:RightC o l) {kb cb kc cc:Nat}
include ok
def P351_JS {n:Nat} {q:List Int} (hf:Fit o q) (hr:rkP o q<n):zmR (JS o l kb cb kc cc) n (JS o l kb cb kc cc).s q=some (sol o l q):=by unfold zmR;rw[if_pos ⟨rfl,hf,hr⟩];show some (sol o l (jw o (zci o q)).1)=_;rw[yd ok.pos hf]
def P364_JS {n:Nat} {p:List Int} {i k:Nat} {d:Dim} {s:ByteArray} (hf:Fit o p) (hd:o[i]? = some d) (hw:jO d.members s=k) (hk:k<d.members.length) (hr:rkP o (p.set i (k:Int))<n) :
  P364 (JS o l kb cb kc cc) n s (JS o l kb cb kc cc).s p (i:Int) d=some (sol o l (p.set i (jO d.members s))):=by
 have hl:=ok.cube.out.len;have hi:i<p.length:=by rw[hf.len];exact (Ac.1 hd).1
 have hm:=ok.most d (Ae hd);simp only[P364,S364,P37_eq _ _ (show d.members.length<=9223372036854775807 by omega),zj,hw,zlT p i k hi (by rw[hf.len];omega),P351_JS ok (zeF hf hd hk) hr]
def P361_JS {p:List Int} (hf:Fit o p):P361 (JS o l kb cb kc cc) (rkP o p) (JS o l kb cb kc cc).s p=some (sol o l p):=by
 have hl:=ok.cube.out.len;have hlen:=hf.len;have r7:=ok.most;rw[zkY ok.cube hf];unfold zbK;simp only[P361,S361];rw[show Solver.o (JS o l kb cb kc cc).s=o from rfl,show Solver.l (JS o l kb cb kc cc).s=l from rfl,show Solver.f (JS o l kb cb kc cc).s=fmL o from rfl];rw[P353_eq hf (by omega) fun d hd=>by have:=r7 d hd;omega];simp only[zj];rw[zJ];by_cases hb:byL o p<0
 ·rw[if_pos hb,if_pos hb,P57_eq (mU ok.ents.rise) ok.len (by omega)];rfl
 rw[if_neg hb,if_neg hb];obtain⟨d,i,hd,hi,_⟩:=byL_is (show 0<=byL o p by omega);obtain⟨b,nP⟩:∃b:Nat,byL o p=b:=⟨(byL o p).toNat,by omega⟩;rw[nP] at hd hi ⊢;simp only[Ap] at hd hi ⊢;have hr:=hf.mem _ _ _ hi hd;obtain⟨j,rfl⟩:∃j:Nat,i=j:=⟨i.toNat,by omega⟩;have hj:j<d.members.length:=by omega
 have hm:=Aa hj;have fA:=Ae hd;have nD:=ok.cube.rules d fA;have hd12:=r7 d fA;have mv:((List.range d.members.length).map (fmM d))[j]? = some (fmM d j):=by rw[As,BU hj];rfl
 simp only[zg,hd,fmL_get hd,hi,zj,mv,Ap,hm];have ask:∀x,x∈zjT d j->Asks o p (p.set b x):=fun x hx=>⟨d,j,x,by omega,by rw[nP];exact hd,by rw[nP];exact hi,by simpa using hx,by rw[nP];rfl⟩;by_cases eQ:(d.members[j]).formula=⟨#[]⟩
 ·have e1:fmM d j=none:=by unfold fmM;rw[hm];simp only[if_pos eQ]
  rw[e1,if_pos eQ];simp only[Option.isSome_none,za,zdP rfl];rw[P47_eq (show d.members.length<=1000 by omega)];simp only[zj];have fx:(partsOf d.members j).length<=1000:=AD (zaZ _ _) (by omega);generalize hF:(fun (c:Cell) (k:Int)=>if sgn d.members k=0 then c else zbb c (sol o l (p.set b k)) (sgn d.members k))=F;have hs:=zP (B:=zhL P33 (zmR (JS o l kb cb kc cc) (rkP o p)) P70 (JS o l kb cb kc cc).s p (b:Int) d (partsOf d.members j)) (fun i=>((i:Int),(((partsOf d.members j).take i).foldl F ⟨0,0⟩).k,(((partsOf d.members j).take i).foldl F ⟨0,0⟩).n)) (partsOf d.members j).length (fun i aQ=>by
   have hx:=Aa aQ;have aP:=Ay aQ;generalize hc:((partsOf d.members j).take i).foldl F ⟨0,0⟩=c;rw[yE F ⟨0,0⟩ _ hx,hc];generalize (partsOf d.members j)[i]=x at hx aP;obtain⟨k,rfl,hk⟩:=zgQ aP;have tG:=Aa hk;have lX:sgn d.members (k:Int)=(d.members[k]).sign:=by unfold sgn;rw[Ap,tG]
   have e4:wi ((i:Int)+1)=((i+1:Nat):Int):=by rw[zR (by omega) (by omega)];omega
   simp only[zhL];rw[zJ,if_pos (by omega)];simp only[zg,hx,tG,zj];rw[←hF];simp only[lX];by_cases h0:(d.members[k]).sign=0
   ·simp only[h0,not_true,decide_false,za,zx,zY,e4,if_true];rfl
   ·have eg:=sj (d:=d) (i:=(j:Int)) (by omega) (by simpa using hm) eQ aP (by rw[lX];exact h0);obtain⟨nF,bP⟩:=zfa ok.cube hf (ask _ (by simpa using eg));have hbp:b<p.length:=(Ac.1 hi).1;simp only[h0,not_false_eq_true,decide_true,ze,zlT p b k hbp (by omega),zj,P351_JS ok nF bP,P33_eq,zx,zY,e4,if_false]
    rfl)
  rw[zW,show ((0:Int),((0:Int),(0:Int)))=(((0:Nat):Int),(((partsOf d.members j).take 0).foldl F ⟨0,0⟩).k,(((partsOf d.members j).take 0).foldl F ⟨0,0⟩).n) from rfl,hs];rw[zF (y:=(((partsOf d.members j).length:Int),(((partsOf d.members j).take (partsOf d.members j).length).foldl F ⟨0,0⟩).k,(((partsOf d.members j).take (partsOf d.members j).length).foldl F ⟨0,0⟩).n)) (by simp only[zhL];rw[zJ,if_neg (by omega)];rfl)];simp only[zY,BA]
 ·have e1:fmM d j=some (rdT (d.members[j]).formula).1:=by unfold fmM;rw[hm];simp only[if_neg eQ]
  have aK:=rdT_ok (zfQ nD hm eQ);rw[e1,if_neg eQ];have aO:=aK.pos;have ah:(!(rdT (d.members[j]).formula).1.isEmpty)=true:=by
   cases hh:(rdT (d.members[j]).formula).1 with
   | nil=>rw[hh] at aO;simp at aO
   | cons=>rfl
  simp only[Option.isSome_some,ze,A7,zdP ah];simp only[zhW]
  have key:=S298_eq (F:=P364 (JS o l kb cb kc cc) (rkP o p)) (a:=((JS o l kb cb kc cc).s,p,(b:Int),d)) (l:=(rdT (d.members[j]).formula).1) (names:=refsOf (rdT (d.members[j]).formula).1) (cells:=(refsOf (rdT (d.members[j]).formula).1).map fun s=>sol o l (p.set b (jO d.members s))) aK (fun c hc=>by
    obtain⟨s,_,rfl⟩:=Al.1 hc;exact sol_in ok.val _) (fun x hx h2=>by
    have bJ:x.name∈refsOf (rdT (d.members[j]).formula).1:=zfT.2 ⟨x,hx,h2,rfl⟩;have eg:=ref_raw hm eQ bJ;obtain⟨k,cW,cx,tN⟩:=drk_lt nD hj eg;obtain⟨nF,bP⟩:=zfa ok.cube hf (ask _ eg);rw[cW] at bP;rw[P364_JS ok hf hd cW cx bP];obtain⟨n,kY,gY⟩:=nmI_in bJ;rw[kY,Ap,An,As,Aa gY];simp only[AQ,A7];rw[nmI_get kY gY])
  rw[key];rfl
def jok (ah:kb≠cb):JOk (JS o l kb cb kc cc):=by
 have hl:=ok.cube.out.len;refine⟨fun p hf=>⟨?_,zdc hf⟩,fun p hf => ?_,ah⟩
 ·show P49 o p=_;rw[P49_eq hf.len (by rw[hf.len];omega),numW_eq ok.cube.out hf];rfl
 ·rw[show (JS o l kb cb kc cc).U ((JS o l kb cb kc cc).num p)=sol o l (jw o (zci o p)).1 from rfl,yd ok.pos hf];exact P361_JS ok hf
end
end
end Ab
