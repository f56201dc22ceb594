import Derived.Test.YtcknjppeompbkaaGreatDoorK14
import Derived.Test.YtcknjppeompbkaaGreatDoorProg
import Derived.Lib.LaidTab
import Derived.Lib.ItoaNum
open List (any_eq_false getElem?_eq_getElem getElem_mem)
set_option linter.all false
noncomputable section
section
namespace Ab
open Go
section
variable {α β σ:Type}
attribute [simp] bnd
@[simp] def qp (x:σ):zD (α:=α) (some x)=some (.inl x):=rfl
@[simp] def inlO_n:zD (α:=α) (none:Option σ)=none:=rfl
@[simp] def inrO_s (x:α):zfZ (σ:=σ) (some x)=some (.inr x):=rfl
@[simp] def inrO_n:zfZ (σ:=σ) (none:Option α)=none:=rfl
@[simp] def eo (x:σ):nxO (α:=α) (some x)=some (.nx x):=rfl
@[simp] def nxO_n:nxO (α:=α) (none:Option σ)=none:=rfl
@[simp] def dnO_s (x:σ):dnO (α:=α) (some x)=some (.dn x):=rfl
@[simp] def dnO_n:dnO (α:=α) (none:Option σ)=none:=rfl
@[simp] def finO_s (x:α):wj (σ:=σ) (some x)=some (.fin x):=rfl
@[simp] def finO_n:wj (σ:=σ) (none:Option α)=none:=rfl
@[simp] def yR (x:σ) (k:σ->Option α):jn (some (.inl x)) k=k x:=rfl
@[simp] def jn_r (x:α) (k:σ->Option α):jn (some (.inr x)) k=some x:=rfl
@[simp] def jn_n (k:σ->Option α):jn none k=none:=rfl
@[simp] def zq (x:σ) (k:σ->Option α):bno (some x) k=k x:=rfl
@[simp] def bno_n (k:σ->Option α):bno none k=none:=rfl
@[simp] def zw (x y:Option α):br true x y=x:=rfl
@[simp] def zi (x y:Option α):br false x y=y:=rfl
@[simp] def ck_true (x:Option α):ck true x=x:=rfl
def zO {p:Prop} [Decidable p] (x y:Option α):br (decide p) x y=if p then x else y:=by by_cases h:p<;>simp[h]
def br_eq (b:Bool) (x y:Option α):br b x y=if b=true then x else y:=by cases b<;>rfl
def zL {p:Prop} [Decidable p] (h:p) (x:Option α):ck (decide p) x=x:=by simp[h]
def nV (B:σ->Option (LR σ α)):∀ (n:Nat) (x:σ) (r:Sum σ α),lpN B n x=some r->∀ m,n<=m->lpN B m x=some r:=by
 intro n
 induction n with
 | zero=>intro x r h;simp[lpN] at h
 | succ n ih =>
  intro x r h m hm;obtain ⟨m,rfl⟩:∃ k,m=k+1:=⟨m - 1,by omega⟩;simp only[lpN] at h ⊢;split at h
  ·rename_i y hy;exact ih y r h m (by omega)
  ·exact h
  ·exact h
  ·cases h
def kD {B:σ->Option (LR σ α)} {n:Nat} {x:σ} {r:Sum σ α} (h:lpN B n x=some r):lpO B x=some r:=by have hx:∃ n,(lpN B n x).isSome=true:=⟨n,by rw[h];rfl⟩;unfold lpO;rw[dif_pos hx];have hc:=Classical.choose_spec hx;obtain ⟨r',bI⟩:=Option.isSome_iff_exists.1 hc;have a:=nV B _ _ _ h (max n (Classical.choose hx)) (by omega);have b:=nV B _ _ _ bI (max n (Classical.choose hx)) (by omega);rw[bI,← b,a]
def lu {B:σ->Option (LR σ α)} {x:σ} {r:Sum σ α} (h:lpO B x=some r):∃ n,lpN B n x=some r:=by
 unfold lpO at h;split at h
 ·exact ⟨_,h⟩
 ·cases h
def lpO_eq (B:σ->Option (LR σ α)) (x:σ):lpO B x=match B x with
  | some (.nx y)=>lpO B y
  | some (.dn y)=>some (.inl y)
  | some (.fin a)=>some (.inr a)
  | none=>none:=by
 cases hb:B x with
 | none =>
  cases h:lpO B x with
  | none=>rfl
  | some r =>
   obtain ⟨n,hn⟩:=lu h;cases n with
   | zero=>simp[lpN] at hn
   | succ n=>simp[lpN,hb] at hn
 | some z =>
  cases z with
  | dn y=>exact kD (n:=1) (by simp[lpN,hb])
  | fin a=>exact kD (n:=1) (by simp[lpN,hb])
  | nx y =>
   cases h:lpO B x with
   | none =>
    cases h':lpO B y with
    | none=>simp only[h']
    | some r =>obtain ⟨n,hn⟩:=lu h';have:lpO B x=some r:=kD (n:=n+1) (by simp[lpN,hb,hn]);rw[h] at this;cases this
   | some r =>
    obtain ⟨n,hn⟩:=lu h;cases n with
    | zero=>simp[lpN] at hn
    | succ n =>simp[lpN,hb] at hn;simp only[kD hn]
def zcJ {B:σ->Option (LR σ α)} {x y:σ} (h:B x=some (.nx y)):lpO B x=lpO B y:=by rw[lpO_eq,h]
def jt {B:σ->Option (LR σ α)} {x y:σ} (h:B x=some (.dn y)):lpO B x=some (.inl y):=by rw[lpO_eq,h]
def wK {B:σ->Option (LR σ α)} {x:σ} {a:α} (h:B x=some (.fin a)):lpO B x=some (.inr a):=by rw[lpO_eq,h]
@[simp] def br_inl (b:Bool) (x y:σ):br b (some (Sum.inl x:Sum σ α)) (some (Sum.inl y))=some (Sum.inl (cond b x y)):=by cases b<;>rfl
@[simp] def br_inr (b:Bool) (x y:α):br b (some (Sum.inr x:Sum σ α)) (some (Sum.inr y))=some (Sum.inr (cond b x y)):=by cases b<;>rfl
@[simp] def br_same (b:Bool) (x:Option α):br b x x=x:=by cases b<;>rfl
@[simp] def zcC:Err.isNil .nil=true:=rfl
@[simp] def no_isNil (n:Int):Err.isNil (.no n)=false:=rfl
@[simp] def oth_isNil (n:Nat):Err.isNil (.oth n)=false:=rfl
def zn {xs:List β} (i:Nat):qb xs (i:Int)=xs[i]?:=by simp[qb]
def lookI_in {xs:List β} {i:Int} (h0:0<=i) (h1:i < xs.length):qb xs i=some (xs[i.toNat]'(by omega)):=by unfold qb;rw[if_pos h0,getElem?_eq_getElem]
def ww {n:Int} (h1 : -9223372036854775808<=n) (h2:n<=9223372036854775807):wi n=n:=by simp[wi,IntKind.wrap,IntKind.bits,IntKind.signed];omega
def qS {B:σ->Option (LR σ α)} (st:Nat->σ):∀ (n:Nat),(∀ i,i < n->B (st i)=some (.nx (st (i+1))))->lpO B (st 0)=lpO B (st n)
 | 0,_=>rfl
 | n+1,h=>by rw[qS st n fun i hi=>h i (by omega),zcJ (h n (by omega))]
def w6 {B:Int->Option (LR Int α)} (n:Nat) (g:Nat->Option α) (h:∀ i:Nat,i < n->B i=some (match g i with | some r=>.fin r | none=>.nx ((i:Int)+1))) (hn:B n=some (.dn n)) :
  lpO B 0=some (match (List.range n).findSome? g with | some r=>.inr r | none=>.inl (n:Int)):=by
 have all:∀ k,k<=n->lpO B ((n - k:Nat):Int)=some (match (List.range' (n - k) k).findSome? g with | some r=>.inr r | none=>.inl (n:Int)):=by
  intro k
  induction k with
  | zero=>intro _;simpa using jt hn
  | succ k ih =>
   intro hk;have hb:=h (n - (k+1)) (by omega);rw[List.range'_succ,List.findSome?_cons];cases hg:g (n - (k+1)) with
   | some r=>rw[hg] at hb;exact wK hb
   | none =>
    rw[hg] at hb;rw[zcJ hb];have e:((n - (k+1):Nat):Int)+1=((n - k:Nat):Int):=by omega
    have e':n - (k+1)+1=n - k:=by omega
    rw[e,e'];exact ih (by omega)
 have:=all n (Nat.le_refl _);rw[Nat.sub_self] at this;rw[List.range_eq_range'];exact this
def idxOf (p:β->Bool) (xs:List β):Int:=match xs.findIdx? p with | some i=>(i:Int) | none => -1
def zce {B:Int->Option (LR Int α)} (n:Nat) (h:∀ i:Nat,i < n->B (i:Int)=some (.nx ((i:Int)+1))):lpO B 0=lpO B (n:Int) :=
 qS (fun i=>(i:Int)) n fun i hi=>by rw[h i hi];rfl
def kI {B:Int->Option (LR Int Int)} (p:β->Bool) (xs:List β) (h:∀ (i:Nat) (y:β),xs[i]? = some y->B (i:Int)=some (match p y with | true=>.fin (i:Int) | false=>.nx ((i:Int)+1))) (hn:B (xs.length:Int)=some (.dn (xs.length:Int))) :
  lp B 0 (fun _=>some (-1:Int))=some (idxOf p xs):=by
 unfold lp idxOf;cases hf:xs.findIdx? p with
 | none =>rw[zce xs.length fun i hi => ?_,jt hn];rfl;rw[h i _ (getElem?_eq_getElem hi)];have:=List.findIdx?_eq_none_iff.1 hf _ (getElem_mem hi);rw[this]
 | some k =>obtain ⟨hk,h1,h2⟩:=List.findIdx?_eq_some_iff_getElem.1 hf;have hb:=h k _ (getElem?_eq_getElem hk);rw[h1] at hb;rw[zce k fun i hi => ?_,wK hb];rfl;rw[h i _ (getElem?_eq_getElem (by omega))];have:=h2 i hi;simp only[Bool.not_eq_true] at this;rw[this]
def zfa {B:Int->Option (LR Int α)} (p:β->Bool) (xs:List β) (r e:α) (h:∀ (i:Nat) (y:β),xs[i]? = some y->B (i:Int)=some (match p y with | true=>.fin r | false=>.nx ((i:Int)+1))) (hn:B (xs.length:Int)=some (.dn (xs.length:Int))) :
  lp B 0 (fun _=>some e)=some (if xs.any p=true then r else e):=by
 unfold lp;cases hf:xs.findIdx? p with
 | none =>
  have hall:=List.findIdx?_eq_none_iff.1 hf;have:xs.any p=false:=by simp only[any_eq_false];intro x hx;rw[hall x hx];simp
  rw[zce xs.length fun i hi => ?_,jt hn,this];rfl;rw[h i _ (getElem?_eq_getElem hi),hall _ (getElem_mem hi)]
 | some k =>obtain ⟨hk,h1,h2⟩:=List.findIdx?_eq_some_iff_getElem.1 hf;have hb:=h k _ (getElem?_eq_getElem hk);rw[h1] at hb;have:xs.any p=true:=List.any_eq_true.2 ⟨_,getElem_mem hk,h1⟩;rw[zce k fun i hi => ?_,wK hb,this];rfl;rw[h i _ (getElem?_eq_getElem (by omega))];have:=h2 i hi;simp only[Bool.not_eq_true] at this;rw[this]
def oa {p:β->Bool} {xs:List β}:idxOf p xs < 0↔xs.any p=false:=by
 unfold idxOf;cases hf:xs.findIdx? p with
 | none =>have:=List.findIdx?_eq_none_iff.1 hf;simp only[any_eq_false];exact ⟨fun _ x hx=>by rw[this x hx];simp,fun _=>by omega⟩
 | some k =>obtain ⟨hk,h1,h2⟩:=List.findIdx?_eq_some_iff_getElem.1 hf;simp only[any_eq_false];exact ⟨fun h=>by omega,fun h=>absurd h1 (h _ (getElem_mem hk))⟩
def qt {γ:Type} (f:γ->Option α) (g:α->β) (l:List γ):l.findSome? (fun a=>(f a).map g)=(l.findSome? f).map g:=by
 induction l with
 | nil=>rfl
 | cons a l ih=>rw[List.findSome?_cons,List.findSome?_cons];cases f a with | none=>simpa using ih | some y=>rfl
def n9 {γ:Type} (f:σ->γ->σ) (s:σ) (l:List γ) {i:Nat} {a:γ} (h:l[i]? = some a):(l.take (i+1)).foldl f s=f ((l.take i).foldl f s) a:=by obtain ⟨hi,rfl⟩:=List.getElem?_eq_some_iff.1 h;rw[List.take_succ_eq_append_getElem hi,List.foldl_append];rfl
def wc (B:σ->Option (LR σ α)) (x:σ) (k:σ->Option α):lp B x k=jn (lpO B x) k:=rfl
@[simp] def cond_dec {p:Prop} [Decidable p] (x y:σ):cond (decide p) x y=if p then x else y:=by by_cases h:p<;>simp[h]
end
end Ab
end
section
namespace Ab
open Go
set_option maxRecDepth 100000
section
variable (F27:LD->LY->(Option Err)) (F71:LD->LY->Edit->(Option (LY×Err))) (F72:LY->(Option LY))
def tc112:TCode:=.seq (rg [oq 3 (.box 0),om 6 cn,om 7 (ci 0),om 8 cz]) (.seq (.seq (rg [om 14 2,oq 15 (.len false 14),oq 16 (.bin .int .gtr 15 (ci 60))]) (.cond 16 (.seq (rg [oq 17 (.ifc 1 (ci 4)),om 6 cn,om 7 (ci 0),om 8 17]) (.ret)) (.skip))) (.seq (.seq (rg [oq 18 (.load (some 1) 3),om 19 1,oq 20 (.call false [] 27 [18,19]),om 9 20]) (.seq (rg [om 21 9,oq 22 (.eqn false true 21)]) (.cond 22 (.seq (rg [om 23 9,om 6 cn,om 7 (ci 0),om 8 23]) (.ret)) (.skip)))) (.seq (rg [om 24 1,oq 25 (.call true [] 72 [24]),om 1 25]) (.seq (.seq (rg [om 26 2,oq 27 (.len false 26),om 28 (ci 0)]) (.loop ⟨[.row 1 25 .entry,.slot 28 .int],[10,11,12,13,29,30,31,32,33,34,35,36,37,38,39,40,41,44,45],[11],[]⟩ 0 (.seq (rg [oq 29 (.bin .int .lss 28 27)]) (.seq (.cond 29 (.skip) (.exit 0)) (.seq (.block 1 (.seq (rg [om 30 28,oq 31 (.ia 3 26 28),oq 32 (.load (some 3) 31),oq 11 (.alloc [.slice none 0 0,.int .i64 0,.bool false]),om 10 30,on (.store 3 11 32)]) (.seq (rg [oq 34 (.load (some 1) 3),om 35 1,oq 36 (.load (some 3) 11),oq 37 (.call true [1001] 71 [34,35,36]),om 33 37,oq 38 (.ext 33 0),oq 39 (.ext 33 1),om 12 38,om 13 39]) (.seq (.seq (rg [om 40 13,oq 41 (.eqn false true 40)]) (.cond 41 (.seq (rg [om 42 10,om 43 13,om 6 cn,om 7 42,om 8 43]) (.ret)) (.skip))) (rg [om 44 12,om 1 44]))))) (rg [oq 45 (.bin .int .add 28 (ci 1)),om 28 45])))))) (.seq (rg [om 46 1,om 6 46,om 7 (ci 0),om 8 cz]) (.ret)))))) 
def tf112:TFunc:=⟨3,47,[.tmp 6,.tmp 7,.tmp 8],false,tc112,[]⟩
def zaF (a0:LD) (a2:(List Edit)) (x3:(LY×Int)):Option (LR (LY×Int) (LY×Int×Err)) :=
 br (decide (x3.2 < (a2.length:Int)))
 (bno (qb a2 x3.2) fun y4 =>
 bno (F71 a0 x3.1 y4) fun y5 =>
 br (!(Err.isNil y5.2))
 (wj (some (([]:List Entry),x3.2,y5.2)))
 (nxO (some (y5.1,wi (x3.2+(1:Int))))))
 (dnO (some (x3.1,x3.2)))
def S112 (a0:LD) (a1:LY) (a2:(List Edit)):Option (LY×Int×Err) :=
 br (decide ((60:Int) < (a2.length:Int)))
 (some (([]:List Entry),(0:Int),Err.no (4:Int)))
 (bno (F27 a0 a1) fun y1 =>
 br (!(Err.isNil y1))
 (some (([]:List Entry),(0:Int),y1))
 (bno (F72 a1) fun y2 =>
 lp (zaF F71 a0 a2) (y2,(0:Int)) fun x6 =>
 some (x6.1,(0:Int),Err.nil)))
def P112:=S112 P27 P71 P72
def k112:CSpec:=⟨112,[(.st .outl),(.sl .entry),(.sl .edit)],(.tp [(.sl .entry),.int,.err]),fun x=>P112 x.1 x.2.1 x.2.2,false,[]⟩
def r112 {S:Seat} (h:Ok1 S 112 tf112):RtF S [k27,k71,k72] (Rt S k112):=okr h rfl fun x=>by kernel_rfl
end
end Ab
end
section
namespace Ab
open Go
def I64 (n:Int):Prop := -9223372036854775808<=n∧n<=9223372036854775807
def Str (s:ByteArray):Prop:=s.size<=9223372036854775807
def Lst {α:Type} (p:α->Prop) (l:List α):Prop:=l.length<=9223372036854775807∧∀ x∈l,p x
def Cell.gd (c:Cell):Prop:=I64 c.k∧I64 c.n
def Member.gd (m:Member):Prop:=Str m.name∧I64 m.parent∧I64 m.sign∧Str m.formula
def Dim.gd (d:Dim):Prop:=Str d.name∧I64 d.solve∧Lst Member.gd d.members
def Node.gd (x:Node):Prop:=I64 x.op∧I64 x.n∧Str x.name∧I64 x.left∧I64 x.right
def Entry.gd (e:Entry):Prop:=Lst I64 e.at_∧I64 e.n
def Edit.gd (e:Edit):Prop:=Lst I64 e.at_∧I64 e.n
def Change.gd (c:Change):Prop:=I64 c.what∧I64 c.dim∧I64 c.member∧Str c.name∧I64 c.to∧I64 c.sign
def Ty.gd:(t:Ty)->t.den->Prop
 | .int,n=>I64 n
 | .str,s=>Str s
 | .cell,c=>Cell.gd c
 | .member,m=>Member.gd m
 | .dim,d=>Dim.gd d
 | .outl,o=>Lst Dim.gd o
 | .node,x=>Node.gd x
 | .entry,e=>Entry.gd e
 | .edit,e=>Edit.gd e
 | .change,c=>Change.gd c
 | .sl t,xs=>Lst t.gd xs
 | _,_=>True
def Sh.gd:(sh:Sh)->sh.den->Prop
 | .int,n=>I64 n
 | .str,s=>Str s
 | .sl t,xs=>Ty.gd (.sl t) xs
 | .st t,x=>t.gd x
 | _,_=>True
end Ab
end
section
namespace Ab
open Go
def P105 (e:Err):Option Int:=match e with
 | .nil=>some 0
 | .no n=>some n
 | .oth _=>none
def k105:CSpec:=⟨105,[.err],.int,fun x=>P105 x,false,[]⟩
end Ab
end
section
namespace Go.Proofs.TryzStr
open Go Go.RowKit Ab
def g1 : Tryz.prog.globalNamed "internal/strconv.uint64pow10" = some 1 := by kernel_rfl
def hold (w : World) : Prop := Lib.TabIs Tryz.prog w "internal/strconv.uint64pow10" .u64 Lib.pow10Tab
def var_same {n:String} {g:Nat} (hg:Tryz.prog.globalNamed n=some g) {w w':World} (h:w'.heap[g]? = w.heap[g]?):w'.var? Tryz.prog n=w.var? Tryz.prog n:=by simp only[World.var?,hg,Option.bind_some,h]
def holdK (w w':World) (h:∀ b∈[1],b < w.heap.size∧w'.heap[b]? = w.heap[b]?) (hh:hold w):hold w':=by unfold hold Lib.TabIs at *;rw[var_same g1 (h 1 (by simp)).2];exact hh
def var_lt {n:String} {g:Nat} (hg:Tryz.prog.globalNamed n=some g) {w:World} {cs:Array Value} (h:w.var? Tryz.prog n=some cs):g < w.heap.size:=by
 rcases Nat.lt_or_ge g w.heap.size with h1 | h1
 ·exact h1
 ·simp[World.var?,hg,Array.getElem?_eq_none h1] at h
def more_lt {w:World} (h:hold w):∀ b∈[1],b < w.heap.size:=by intro b hb;obtain rfl:=List.mem_singleton.1 hb;exact var_lt g1 h
end Go.Proofs.TryzStr
end
section
namespace Ab
open Go Go.RowKit
def fX (frz:Bool) (z:Nat) (zero:List Value):TFunc:={ np:=1,nt:=8,res:=[.tmp 2],own:=false,body:=cloneC frz z zero }
section
variable {S:Seat} {id:Nat} {frz:Bool} {z:Nat} {zero:List Value}
def oC (h:Ok1 S id (fX frz z zero)) {x:AV} {es:List (List AV)} (hx:∀ (d:Nat) (st:ASt),st.ev (.t 3)=x->aop (.eqn true false (.t 3)) d st=some (.v (.bool false),st)) (he:∀ hp,jz hp z x=some es) (ho:zm x=false)
  (al:es.length<=zan z):(za S).ret id [x] (.sl z es) []:=by
 obtain ⟨aa,k1,_,k2⟩:=zgk (M:=za S) (frz:=frz) (zero:=zero) hx he al (enter [] [x]) (by
  clear hx he;cases x with
  | own=>simp[zm] at ho
  | _=>rfl) (qH [] 0 [x] (by simpa using ho))
 exact h id (fX frz z zero).er [x] (.sl z es) [] (if_pos rfl) ⟨rfl,by simp[qi,ho,zj,TFunc.er,fX],.ret,aa,k1,.inr rfl,k2⟩
def zje (h:Ok1 S id (fX frz z zero)):(za S).ret id [aN] aN []:=by refine h id (fX frz z zero).er [aN] aN [] (if_pos rfl) ⟨rfl,rfl,.ret,_,.seqN (.region (.cons (.inl ⟨rfl,_,_,rfl,rfl⟩) (.nil _))) (.seqE (.seqN (.region (.cons (.inl ⟨rfl,_,_,rfl,rfl⟩) (.cons (.inl ⟨rfl,_,_,rfl,rfl⟩) (.nil _)))) (.cond (t:=true) rfl (.seqN (.region (.cons (.inl ⟨rfl,_,_,rfl,rfl⟩) (.nil _))) (.ret _)))) (by intro e;cases e)),.inr rfl,rfl⟩
def zjd (h:Ok1 S id (fX frz z zero)) {es:List (List AV)} (al:es.length<=zan z):(za S).ret id [.sl z es] (.sl z es) []:=by
 cases es with
 | cons e es =>refine oC h (fun d st hs => ?_) (fun hp=>by simp[jz]) rfl al;simp only[aop,hs,if_true]
 | nil =>
  intro g hg;refine wF (fun A w vs hl hA hJ ha => ?_) (by simp[zm]);have hv:=ha 0 _ rfl;have c1:(za S).ret id [aN] (.sl z []) []:=zer rfl rfl (.inr (.inl ⟨rfl,rfl,.nil z⟩)) (zje h);have c2:∀ a cap,(za S).ret id [.v (.slice (some a) 0 cap)] (.sl z []) []:=fun a cap =>
   oC h (fun d st hs=>by simp only[aop,hs,if_true]) (fun hp=>rfl) rfl (by exact Nat.zero_le _)
  have use:∀ x,(za S).ret id [x] (.sl z []) []->zm x=false->VR0 S A w x (vs.getD 0 undef)->Calls S.P g vs w fun e w'=>∃ v,e=.returned v∧KeepO S.jg w w'∧S.jn w'∧zgD S A w w' (.sl z []) v:=fun x hr ho hx =>
   (hr g hg).old (by simpa using ho) A w vs hl hA hJ fun i y hy=>by
    cases i with
    | zero=>simp at hy;subst hy;exact hx
    | succ i=>simp at hy
  have hs:=VR.sl_inv (σ:=fun _=>none) (.of0 hv);rcases hs with ⟨_,hr⟩ | ⟨b,o',cap,u,hr,_⟩ | ⟨_,a,cap,hr⟩
  ·exact use aN c1 rfl (by rw[hr];exact .v _)
  ·exact use _ (c2 _ cap) rfl (by rw[hr];exact .v _)
  ·exact use _ (c2 a cap) rfl (by rw[hr];exact .v _)
end
end Ab
end
