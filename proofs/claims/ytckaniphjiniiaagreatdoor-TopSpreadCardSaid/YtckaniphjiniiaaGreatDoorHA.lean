import Derived.Test.YtckaniphjiniiaaGreatDoorB2
import Derived.WalkKit
import Derived.ProofKit
import Derived.OpenShut
import Derived.ShutString
import Derived.ChangeOld
import Derived.ChangeArms
set_option linter.all false
namespace Ab
open Go
section
def I64 (n:Int):Prop := -9223372036854775808<=n∧n<=9223372036854775807
def Str (s:ByteArray):Prop:=s.size<=9223372036854775807
def Lst {α:Type} (p:α->Prop) (l:List α):Prop:=l.length<=9223372036854775807∧∀x∈l,p x
def Cell.gd (c:Cell):Prop:=I64 c.k∧I64 c.n
def Member.gd (m:Member):Prop:=Str m.name∧I64 m.parent∧I64 m.sign∧Str m.formula
def Dim.gd (d:Dim):Prop:=Str d.name∧I64 d.solve∧Lst Member.gd d.members
def Node.gd (x:Node):Prop:=I64 x.op∧I64 x.n∧Str x.name∧I64 x.left∧I64 x.right
def Entry.gd (e:Entry):Prop:=Lst I64 e.at_∧I64 e.n
def Edit.gd (e:Edit):Prop:=Lst I64 e.at_∧I64 e.n
def Change.gd (c:Change):Prop:=I64 c.what∧I64 c.dim∧I64 c.member∧Str c.name∧I64 c.to∧I64 c.sign
def Ty.gd:(t:Ty)->t.den->Prop
 | .int,n=>I64 n
 | .str,s=>Str s
 | .cell,c=>Cell.gd c
 | .member,m=>Member.gd m
 | .dim,d=>Dim.gd d
 | .outl,o=>Lst Dim.gd o
 | .node,x=>Node.gd x
 | .entry,e=>Entry.gd e
 | .edit,e=>Edit.gd e
 | .change,c=>Change.gd c
 | .sl t,xs=>Lst t.gd xs
 | _,_=>True
def Sh.gd:(sh:Sh)->sh.den->Prop
 | .int,n=>I64 n
 | .str,s=>Str s
 | .sl t,xs=>Ty.gd (.sl t) xs
 | .st t,x=>t.gd x
 | _,_=>True
end
section
open Go Go.RowKit Go.ChangeShapes
def Ty.flds:Ty->Option (List Ty)
 | .cell=>some [.int,.int]
 | .member=>some [.str,.int,.int,.str]
 | .dim=>some [.str,.int,.sl .member]
 | .outl=>some [.sl .dim]
 | .node=>some [.int,.int,.str,.int,.int]
 | .entry=>some [.sl .int,.int]
 | .edit=>some [.sl .int,.int,.bool]
 | .change=>some [.int,.int,.int,.str,.int,.int]
 | .grid=>some [.sl .int,.sl .int,.sl (.sl .cell)]
 | _=>none
def mtL (P:Program) (f:TypeId->Ty->Bool):Nat->List Field->List Ty->Bool
 | _,[],[]=>true
 | o,x::l,t::r=>f x.type t && (x.offset == o && P.cellsOf x.type == 1 && t.z == 1) && mtL P f (o+1) l r
 | _,_,_=>false
def mt (P:Program):Nat->TypeId->Ty->Bool
 | 0,_,_=>false
 | k+1,t,ty=>match P.underlying t,ty with
  | some (.int .i64),.int=>true
  | some (.int .u8),.u8=>true
  | some .bool,.bool=>true
  | some .string,.str=>true
  | some (.slice e),.sl t'=>mt P k e t' && P.cellsOf e == t'.z
  | some (.struct fs),ty=>(match ty.flds with|some l=>mtL P (mt P k) 0 fs.toList l|none=>false) && P.cellsOf t == ty.z
  | _,_=>false
@[reducible] def TyL:List Ty->Type
 | []=>Unit
 | t::r=>t.den×TyL r
def lA:(l:List Ty)->TyL l->List AV
 | [],_=>[]
 | t::r,x=>t.cells x.1++lA r x.2
def gdL:(l:List Ty)->TyL l->Prop
 | [],_=>True
 | t::r,x=>t.gd x.1∧gdL r x.2
def flds_val {ty:Ty} {l:List Ty} (h:ty.flds=some l) (x:TyL l) (hg:gdL l x):∃y:ty.den,ty.gd y∧ty.cells y=lA l x:=by
 cases ty<;>simp only[Ty.flds,DM,reduceCtorEq] at h<;>subst h
 ·exact⟨⟨x.1,x.2.1⟩,⟨hg.1,hg.2.1⟩,rfl⟩
 ·exact⟨⟨x.1,x.2.1,x.2.2.1,x.2.2.2.1⟩,⟨hg.1,hg.2.1,hg.2.2.1,hg.2.2.2.1⟩,rfl⟩
 ·exact⟨⟨x.1,x.2.1,x.2.2.1⟩,⟨hg.1,hg.2.1,hg.2.2.1⟩,rfl⟩
 ·exact⟨x.1,hg.1,rfl⟩
 ·exact⟨⟨x.1,x.2.1,x.2.2.1,x.2.2.2.1,x.2.2.2.2.1⟩,⟨hg.1,hg.2.1,hg.2.2.1,hg.2.2.2.1,hg.2.2.2.2.1⟩,rfl⟩
 ·exact⟨⟨x.1,x.2.1⟩,⟨hg.1,hg.2.1⟩,rfl⟩
 ·exact⟨⟨x.1,x.2.1,x.2.2.1⟩,⟨hg.1,hg.2.1⟩,rfl⟩
 ·exact⟨⟨x.1,x.2.1,x.2.2.1,x.2.2.2.1,x.2.2.2.2.1,x.2.2.2.2.2.1⟩,⟨hg.1,hg.2.1,hg.2.2.1,hg.2.2.2.1,hg.2.2.2.2.1,hg.2.2.2.2.2.1⟩,rfl⟩
 ·exact⟨⟨x.1,x.2.1,x.2.2.1⟩,True.intro,rfl⟩
def flds_len {ty:Ty} {l:List Ty} (h:ty.flds=some l):l.length=ty.z:=by cases ty<;>simp only[Ty.flds,DM,reduceCtorEq] at h<;>subst h<;>rfl
def zle {α β:Type} {f:α->Option β}:∀ {l:List α} {ys:List β},l.mapM f=some ys->ys.length=l.length∧∀(i:Nat) (a:α),l[i]? = some a->∃y,ys[i]? = some y∧f a=some y:=by
 intro l
 induction l with
 | nil=>intro ys h;simp at h;subst h;simp
 | cons a l ih =>
  intro ys h;rw[Du] at h;cases hf:f a with
  | none=>rw[hf] at h;simp at h
  | some y =>
   rw[hf] at h;cases hl:l.mapM f with
   | none=>rw[hl] at h;simp at h
   | some zs =>
    rw[hl] at h;simp at h;subst h;obtain⟨h1,h2⟩:=ih hl;refine⟨by simp[h1],fun i b hb => ?_⟩;cases i with
    | zero=>simp at hb;subst hb;exact⟨y,by simp,hf⟩
    | succ i=>simpa using h2 i b (by simpa using hb)
def zeT {α:Type} {p:Nat->α->Prop}:∀(n:Nat),(∀i,i<n->∃x,p i x)->∃xs:List α,xs.length=n∧∀(i:Nat) (x:α),xs[i]? = some x->p i x
 | 0,_=>⟨[],rfl,by simp⟩
 | n+1,h=>by
  obtain⟨xs,h1,h2⟩:=zeT n fun i hi=>h i (by omega);obtain⟨x,hx⟩:=h n (by omega);refine⟨xs++[x],by simp[h1],fun i y hy => ?_⟩;by_cases hi:i<n
  ·rw[AG (by omega)] at hy;exact h2 i y hy
  ·have aQ:i=n:=(by have:=(Ac.1 hy).1;simp[h1] at this;omega);subst aQ;rw[AM (by omega),h1] at hy;simp at hy;subst hy;exact hx
section
variable {H:Type} {enc:TypeId×Value->H} {S:Seat} {W:World} {held:Bool} {spare:Nat->Bool}
def Rd (S:Seat) (W:World) (ty:Ty) (cs:List Value):Prop :=
 ∃x:ty.den,ty.gd x∧cs.length=ty.z∧(∀u∈cs,u.oneCell'=true)∧∀(i:Nat) (c:AV),(ty.cells x)[i]? = some c->VR0 S (fun b=>b<W.heap.size) W c (cs.getD i undef)
def mtL_ok {P:Program} {f:TypeId->Ty->Bool} {r:TypeId->List Value->Option (DataW H×List MemPlace)} (hr:∀t ty cs d,f t ty=true->r t cs=some d->Rd S W ty cs) (cs:List Value) :
  ∀(fs:List Field) (l:List Ty) (o:Nat) (ys:List (DataW H×List MemPlace)),mtL P f o fs l=true->o+l.length=cs.length->(fs.mapM fun f=>r f.type ((cs.drop f.offset).take (P.cellsOf f.type)))=some ys ->
   ∃x:TyL l,gdL l x∧(∀j,o<=j->j<cs.length->(cs.getD j undef).oneCell'=true)∧∀(i:Nat) (c:AV),(lA l x)[i]? = some c->VR0 S (fun b=>b<W.heap.size) W c (cs.getD (o+i) undef):=by
 intro fs
 induction fs with
 | nil =>
  intro l o ys h hl _;cases l with
  | nil=>exact⟨(),True.intro,fun j h1 h2=>by simp at hl;omega,by simp[lA]⟩
  | cons=>simp[mtL] at h
 | cons g fs ih =>
  intro l o ys h hl hm;cases l with
  | nil=>simp[mtL] at h
  | cons t l =>
   simp only[mtL,Ai,beq_iff_eq] at h;obtain⟨⟨h1,⟨h2,h3⟩,h4⟩,h5⟩:=h;rw[Du] at hm;cases hf:r g.type ((cs.drop g.offset).take (P.cellsOf g.type)) with
   | none=>rw[hf] at hm;simp at hm
   | some d =>
    rw[hf] at hm;cases hk:(fs.mapM fun f=>r f.type ((cs.drop f.offset).take (P.cellsOf f.type))) with
    | none=>rw[hk] at hm;simp at hm
    | some ds =>
     obtain⟨x,kg,k1,k2,k3⟩:=hr _ _ _ _ h1 hf;simp only[Ax] at hl;obtain⟨y,mg,m1,m2⟩:=ih l (o+1) ds h5 (by omega) hk;have an:(cs.drop g.offset).take (P.cellsOf g.type)=[cs.getD o undef]:=by
      rw[h2,h3];have ho:o<cs.length:=by omega
      rw[BP ho];rw[List.take_succ_cons,Ci];simp[List.getD,ho]
     rw[an] at k1 k2 k3;refine⟨(x,y),⟨kg,mg⟩,fun j hj bA => ?_,fun i c hi => ?_⟩
     ·by_cases nM:j=o
      ·subst nM;exact k2 _ (by simp)
      ·exact m1 j (by omega) bA
     ·simp only[lA] at hi;have gZ:(t.cells x).length=1:=by rw[yH];exact h4
      cases i with
      | zero =>rw[AG (by omega)] at hi;simpa using k3 0 c hi
      | succ i =>
       rw[AM (by omega),gZ] at hi;have:=m2 i c (by simpa using hi)
       rwa [A5,DG 1 i] at this
def addr_add (a:Addr) (n:Nat) (h:a.spot=none):a.add n=⟨a.block,a.off+n,none⟩:=by obtain⟨b,o,s⟩:=a;simp at h;subst h;unfold Addr.add;by_cases hn:n=0<;>simp[hn]
def zeV {w:World} {a:Addr} {n:Nat} {cs:List Value} (h:w.cells? 0 a n=some cs):cs.length=n∧∀i,i<n->w.cell? (a.add i)=some (cs.getD i undef):=by unfold World.cells? at h;rw[if_pos (BM _)] at h;obtain⟨h1,h2⟩:=zle h;refine⟨by simpa using h1,fun i hi => ?_⟩;obtain⟨y,hy,fG⟩:=h2 i i (by simp[hi]);rw[fG];simp[List.getD,hy]
def zgs {P:Program}:∀(k n:Nat) (t:TypeId) (ty:Ty) (cs:List Value) (d:DataW H×List MemPlace),mt P k t ty=true->DataW.trod enc P W 0 spare held n t cs=some d->Rd S W ty cs:=by
 intro k
 induction k with
 | zero=>intro n t ty cs d h;simp[mt] at h
 | succ k ih =>
  intro n t ty cs d hm h;cases n with
  | zero=>simp[DataW.trod] at h
  | succ n =>
   rw[DataW.trod_step] at h;unfold DataW.trodStep at h;simp only[mt] at hm;have one:∀(v:Value),v.oneCell'=true->∀x:ty.den,ty.gd x->ty.cells x=[.v v]->Rd S W ty [v]:=by
    intro v hv x hg hx;have hz:=yH ty x;rw[hx] at hz;refine⟨x,hg,by simpa using hz,by simpa using hv,fun i c hc => ?_⟩;rw[hx] at hc;cases i with
    | zero=>simp at hc;subst hc;exact .v _
    | succ i=>simp at hc
   split at hm
   ·rename_i hu;obtain⟨n',hw,rfl⟩:∃n',(Lit.int .i64 n').wf=true∧cs=[.int .i64 n']:=(by rw[hu] at h;split at h<;>simp_all);exact one _ rfl n' (by simp[Lit.wf,IntKind.min,IntKind.max,IntKind.signed,IntKind.bits] at hw;exact⟨by omega,by omega⟩) rfl
   ·rename_i hu;obtain⟨n',h1,rfl⟩:∃n',(Lit.int .u8 n').wf=true∧cs=[.int .u8 n']:=(by rw[hu] at h;split at h<;>simp_all);have hb:0<=n'∧n'<=255:=by simp[Lit.wf,IntKind.min,IntKind.max,IntKind.signed,IntKind.bits] at h1;omega
    refine one _ rfl (UInt8.ofNat n'.toNat) True.intro ?_;simp only[Ty.cells,aU];have:(UInt8.ofNat n'.toNat).toNat=n'.toNat:=(by simp;omega);rw[this,CQ hb.1]
   ·rename_i hu;obtain⟨b,rfl⟩:∃b,cs=[.bool b]:=(by rw[hu] at h;split at h<;>simp_all);exact one _ rfl b True.intro rfl
   ·rename_i hu;obtain⟨b,hb,rfl⟩:∃b:ByteArray,b.size<=maxLen∧cs=[.string b]:=(by rw[hu] at h;split at h<;>simp_all);exact one _ rfl b hb rfl
   ·rename_i e t' hu;simp only[Ai,beq_iff_eq] at hm;obtain⟨hm,hz⟩:=hm;have hf:cs=[.slice none 0 0]∨∃a len cap ys,cs=[.slice (some a) len cap]∧len<=cap∧cap<=maxLen∧(List.range len).mapM (fun i=>(W.cells? 0 (a.add (i*P.cellsOf e)) (P.cellsOf e)).bind (DataW.trod enc P W 0 spare held n e))=some ys:=by
     rw[hu] at h;split at h
     case h_8 =>
      rename_i e' a len cap he;cases he;simp only at h;split at h
      ·rename_i hc;cases hq:(List.range len).mapM (fun i=>(W.cells? 0 (a.add (i*P.cellsOf e)) (P.cellsOf e)).bind (DataW.trod enc P W 0 spare held n e)) with
       | none=>rw[hq] at h;simp at h
       | some ys=>exact .inr ⟨a,len,cap,ys,rfl,hc.2.1,hc.2.2,hq⟩
      ·cases h
     all_goals simp_all
    rcases hf with rfl|⟨a,len,cap,ys,rfl,hle,hcm,hq⟩
    ·exact⟨([]:List t'.den),⟨BM _,by simp⟩,rfl,by simp[Value.oneCell'],fun i c hc=>by
      cases i with
      | zero=>simp[Ty.cells] at hc;subst hc;exact .slnil _
      | succ i=>simp[Ty.cells] at hc⟩
    ·obtain⟨q1,q2⟩:=zle hq;have all:∀i,i<len->∃x:t'.den,∃cs,t'.gd x∧W.cells? 0 (a.add (i*t'.z)) t'.z=some cs∧(∀u∈cs,u.oneCell'=true)∧∀(i:Nat) (c:AV),(t'.cells x)[i]? = some c->VR0 S (fun b=>b<W.heap.size) W c (cs.getD i undef):=by
      intro i hi;obtain⟨y,_,hy⟩:=q2 i i (by simp[hi]);rw[hz] at hy;cases an:W.cells? 0 (a.add (i*t'.z)) t'.z with
      | none=>rw[an] at hy;simp at hy
      | some cs =>rw[an] at hy;obtain⟨x,kg,k1,k2,k3⟩:=ih n e t' cs y hm (by simpa using hy);exact⟨x,cs,kg,rfl,k2,k3⟩
     obtain⟨xs,aH,dp⟩:=zeT len all;have main:VR0 S (fun b=>b<W.heap.size) W (.sl t'.z (xs.map t'.cells)) (.slice (some a) len cap):=by
      by_cases h0:len=0
      ·subst h0;cases xs with
       | nil=>exact .slemp _ _ _
       | cons=>simp at aH
      ·have dW:0<t'.z:=by cases t'<;>simp[Ty.z]
       obtain⟨x0,aC⟩:∃x,xs[0]? = some x:=⟨xs[0]'(by omega),Aa (by omega)⟩;obtain⟨iy,_,g1,_,_⟩:=dp 0 x0 aC;have eE:=(zeV g1).2 0 dW;have mD:W.cell? a=some (iy.getD 0 undef):=(by simpa[Addr.add] using eE);have eL:a.spot=none:=World.cell?_spot mD;have hb:a.block<W.heap.size:=World.block_lt_of_cell? W a mD;have ch:∀j,j<xs.length*t'.z->∃cs x,xs[j/t'.z]? = some x∧W.cells? 0 (a.add (j/t'.z*t'.z)) t'.z=some cs∧W.cell? ⟨a.block,a.off+j,none⟩=some (cs.getD (j%t'.z) undef)∧(cs.getD (j%t'.z) undef).oneCell'=true:=by
        intro j hj;have tP:j/t'.z<xs.length:=Dq (by rw[Ct];exact hj);have pL:j%t'.z<t'.z:=CG _ dW;obtain⟨cs,_,g1,g2,g3⟩:=dp _ _ (Aa tP);have g4:=zeV g1;have g5:=g4.2 _ pL;rw[addr_add _ _ eL,addr_add _ _ rfl] at g5;have e:a.off+j/t'.z*t'.z+j%t'.z=a.off+j:=by have:=Nat.div_add_mod j t'.z;rw[Ct] at this;omega
        refine⟨cs,_,Aa tP,g1,by rw[←e];exact g5,g2 _ ?_⟩;rw[An,Aa (by omega)];exact Ay _
       have:=VR0.sl (S:=S) (A:=fun b=>b<W.heap.size) (w:=W) (z:=t'.z) (es:=xs.map t'.cells) (b:=a.block) (o:=a.off) (cap:=cap) (u:=fun j=>(W.cell? ⟨a.block,a.off+j,none⟩).getD undef) hb (by simp[aH,hle])
        (fun e he=>by obtain⟨x,_,rfl⟩:=Al.1 he;exact yH _ _)
        (fun j hj=>by obtain⟨cs,x,_,_,g,_⟩:=ch j (by simpa using hj);simp[g])
        (fun j hj=>by obtain⟨cs,x,_,_,g,g'⟩:=ch j (by simpa using hj);simpa[g] using g')
        (fun i e c y hi hc=>by
         simp only[As,Ag] at hi;obtain⟨x,hx,rfl⟩:=hi;obtain⟨cs,_,g1,g2,g3⟩:=dp i x hx;have fh:c<t'.z:=by have:=(Ac.1 hc).1;rwa [yH] at this
         have g5:=(zeV g1).2 _ fh;rw[addr_add _ _ eL,addr_add _ _ rfl] at g5;simp only at g5;rw[A5] at g5;simp only[g5,A7];exact g3 c y hc)
       have ea:a=⟨a.block,a.off,none⟩:=by cases a;simp at eL;simp[eL]
       rw[ea];simpa[aH] using this
     exact⟨(xs:List t'.den),⟨by rw[aH];exact AD hle hcm,fun x hx=>by
      obtain⟨i,hi,rfl⟩:=Bz hx;obtain⟨_,g,_⟩:=dp i _ (Aa hi);exact g⟩,rfl,by simp[Value.oneCell'],fun i c hc=>by
      cases i with
      | zero=>simp[Ty.cells] at hc;subst hc;exact main
      | succ i=>simp[Ty.cells] at hc⟩
   ·rename_i fs hu;simp only[Ai,beq_iff_eq] at hm;obtain⟨hm,hz⟩:=hm;split at hm
    ·rename_i l hl;have hf:cs.length=P.cellsOf t∧∃ys,(fs.toList.mapM fun f=>DataW.trod enc P W 0 spare held n f.type ((cs.drop f.offset).take (P.cellsOf f.type)))=some ys:=by
      rw[hu] at h;split at h
      case h_9 =>
       rename_i cs _ _ fs' he;cases he;split at h
       ·rename_i hc;cases hq:(fs.toList.mapM fun f=>DataW.trod enc P W 0 spare held n f.type ((cs.drop f.offset).take (P.cellsOf f.type))) with
        | none=>rw[hq] at h;simp at h
        | some ys=>exact⟨hc,ys,rfl⟩
       ·cases h
      all_goals simp_all
     obtain⟨h1,ys,h2⟩:=hf;obtain⟨x,kg,k1,k2⟩:=mtL_ok (S:=S) (W:=W) (fun t ty cs d a b=>ih n t ty cs d a b) cs fs.toList l 0 ys hm (by rw[h1,hz,←flds_len hl];omega) h2;obtain⟨y,yg,e1⟩:=flds_val hl x kg;refine⟨y,yg,by rw[h1,hz],fun u hu => ?_,fun i c hc=>by rw[e1] at hc;simpa using k2 i c hc⟩;obtain⟨j,hj,rfl⟩:=Bz hu;have:=k1 j (BM _) hj;simpa[List.getD,hj] using this
    ·cases hm
   ·cases hm
def ma (P:Program) (t:TypeId):Sh->Bool
 | .int=>match P.underlying t with|some (.int .i64)=>true|_=>false
 | .bool=>match P.underlying t with|some .bool=>true|_=>false
 | .str=>match P.underlying t with|some .string=>true|_=>false
 | .sl ty=>match P.underlying t with|some (.slice e)=>mt P 8 t (.sl ty)|_=>false
 | .st ty=>match P.underlying t with|some (.struct fs)=>mt P 8 t ty|_=>false
 | _=>false
def open_arg {P:Program} {r:Reach} {b0:Nat} {t:TypeId} {sh:Sh} {v:Value} {d:DataW H} {p:List MemPlace} (hm:ma P t sh=true) (hval:Value.okWide P W r b0 t v) (h:DataW.Trod enc P W 0 spare held t v d p) :
  ∃x:sh.den,sh.gd x∧VR0 S (fun b=>b<W.heap.size) W (encA sh x) v:=by
 obtain⟨fuel,hf⟩:=h;cases sh<;>simp only[ma] at hm<;>try (cases hm;done)
 all_goals split at hm
 all_goals try (cases hm;done)
 ·rename_i hu;obtain⟨n,rfl⟩:=WideShapes.okWide_int hu hval;obtain⟨x,g,_,_,k⟩:=zgs (S:=S) 1 fuel t .int _ _ (by simp[mt,hu]) hf;exact⟨x,g,k 0 _ rfl⟩
 ·rename_i hu;obtain⟨n,rfl⟩:=WideShapes.okWide_bool hu hval;exact⟨n,True.intro,.v _⟩
 ·rename_i hu;obtain⟨n,rfl⟩:=WideShapes.okWide_string hu hval;obtain⟨x,g,_,_,k⟩:=zgs (S:=S) 1 fuel t .str _ _ (by simp[mt,hu]) hf;exact⟨x,g,k 0 _ rfl⟩
 ·rename_i hu;obtain⟨a,len,cap,rfl⟩:=WideShapes.okWide_slice hu hval;obtain⟨x,g,_,_,k⟩:=zgs (S:=S) 8 fuel t _ _ _ hm hf;exact⟨x,g,k 0 _ rfl⟩
 ·rename_i ty fs hu;simp only[Value.okWide,hu] at hval;obtain⟨cs,rfl,_⟩:=hval;obtain⟨x,g,k1,_,k⟩:=zgs (S:=S) 8 fuel t _ _ _ hm hf;refine⟨x,g,.agg (by rw[yH,←k1];simp[Value.cells]) fun i c hc => ?_⟩;have:=k i c hc;simpa[Value.cells,Ao,List.getD] using this
end
end
section
end
end Ab
