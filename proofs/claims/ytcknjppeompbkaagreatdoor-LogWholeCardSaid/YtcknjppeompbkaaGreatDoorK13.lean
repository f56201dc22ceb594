import Derived.Test.YtcknjppeompbkaaGreatDoorK3
import Derived.Shelf.LaysM
import Derived.Shelf.LaysC
import Derived.Shelf.Small.Strs
import Derived.Shelf.Strconv.AtoiAll
import Derived.Shelf.Strconv.ErrVarAll
import Derived.Shelf.Lays
import Derived.Shelf.Abstract
import Derived.ProofKit
import Derived.OpenShut
import Derived.ShutString
import Derived.ChangeOld
open List (getElem?_eq_getElem)
open Nat (zero_le)
open Bool (and_eq_true)
set_option linter.all false
section
namespace Ab
open Go Go.RowKit
def ErrIs (S:Seat) (e:Err) (u:Value):Prop :=
 match e with | .nil=>u=.nilIface | .no n=>∃ T,u=.iface T (.int .i64 n)∧qh T S.tys=some 1 | .oth k=>∃ T x,u=.iface T x∧qh T S.tys=some k
end Ab
end
section
namespace Go.Proofs
open Go.Shelf
def Tryz.laysC172_ren:Go.Shelf.Ren:=⟨fun | 172=>138 | 244=>139 | 245=>140 | 247=>141 | 279=>142 | 280=>143 | 281=>144 | 282=>145 | 287=>146 | 316=>147 | 171=>14 | 205=>148 | 321=>149 | 322=>150 | 243=>27 | 246=>44 | 283=>57 | 284=>58 | 285=>59 | 286=>60 | 129=>76 | 317=>75 | 318=>77 | 319=>78 | 320=>79 | 337=>90 | 338=>91 | n=>n,fun | 9=>9 | 3=>3 | 75=>27 | 76=>55 | 4=>4 | 5=>5 | 167=>207 | 37=>52 | 0=>0 | 85=>208 | 2=>2 | 168=>210 | 53=>113 | 175=>213 | 46=>148 | 210=>217 | 127=>77 | 145=>222 | 143=>220 | 21=>21 | 171=>112 | 173=>116 | 212=>145 | 51=>146 | 20=>20 | 213=>147 | 232=>173 | 233=>174 | 80=>61 | n=>n,fun | 15=>5 | 16=>6 | 17=>1 | 18=>3 | 19=>4 | n=>n⟩
def Tryz.laysC172:Go.Proofs.LaysC.n172 Tryz.prog Tryz.laysC172_ren:={
 mixed:=by kernel_rfl
 f129:=Tryz.func76.trans (congrArg some (by kernel_rfl))
 f171:=Tryz.func14.trans (congrArg some (by kernel_rfl))
 f172:=Tryz.func138.trans (congrArg some (by kernel_rfl))
 f205:=Tryz.func148.trans (congrArg some (by kernel_rfl))
 f243:=Tryz.func27.trans (congrArg some (by kernel_rfl))
 f244:=Tryz.func139.trans (congrArg some (by kernel_rfl))
 f245:=Tryz.func140.trans (congrArg some (by kernel_rfl))
 f246:=Tryz.func44.trans (congrArg some (by kernel_rfl))
 f247:=Tryz.func141.trans (congrArg some (by kernel_rfl))
 f279:=Tryz.func142.trans (congrArg some (by kernel_rfl))
 f280:=Tryz.func143.trans (congrArg some (by kernel_rfl))
 f281:=Tryz.func144.trans (congrArg some (by kernel_rfl))
 f282:=Tryz.func145.trans (congrArg some (by kernel_rfl))
 f283:=Tryz.func57.trans (congrArg some (by kernel_rfl))
 f284:=Tryz.func58.trans (congrArg some (by kernel_rfl))
 f285:=Tryz.func59.trans (congrArg some (by kernel_rfl))
 f286:=Tryz.func60.trans (congrArg some (by kernel_rfl))
 f287:=Tryz.func146.trans (congrArg some (by kernel_rfl))
 f316:=Tryz.func147.trans (congrArg some (by kernel_rfl))
 f317:=Tryz.func75.trans (congrArg some (by kernel_rfl))
 f318:=Tryz.func77.trans (congrArg some (by kernel_rfl))
 f319:=Tryz.func78.trans (congrArg some (by kernel_rfl))
 f320:=Tryz.func79.trans (congrArg some (by kernel_rfl))
 f321:=Tryz.func149.trans (congrArg some (by kernel_rfl))
 f322:=Tryz.func150.trans (congrArg some (by kernel_rfl))
 f337:=Tryz.func90.trans (congrArg some (by kernel_rfl))
 f338:=Tryz.func91.trans (congrArg some (by kernel_rfl))
 t0:=Tryz.underlying0
 a0:=Tryz.isAgg0
 z0:=Tryz.sizeOf0
 v0:=Tryz.zeroValue0
 t2:=Tryz.underlying2
 a2:=Tryz.isAgg2
 z2:=Tryz.sizeOf2
 v2:=Tryz.zeroValue2
 t3:=Tryz.underlying3
 a3:=Tryz.isAgg3
 z3:=Tryz.sizeOf3
 v3:=Tryz.zeroValue3
 t4:=Tryz.underlying4
 a4:=Tryz.isAgg4
 z4:=Tryz.sizeOf4
 v4:=Tryz.zeroValue4
 t5:=Tryz.underlying5
 a5:=Tryz.isAgg5
 z5:=Tryz.sizeOf5
 v5:=Tryz.zeroValue5
 t9:=Tryz.underlying9
 a9:=Tryz.isAgg9
 z9:=Tryz.sizeOf9
 v9:=Tryz.zeroValue9
 t20:=Tryz.underlying20
 a20:=Tryz.isAgg20
 z20:=Tryz.sizeOf20
 v20:=Tryz.zeroValue20
 t21:=Tryz.underlying21
 a21:=Tryz.isAgg21
 z21:=Tryz.sizeOf21
 v21:=Tryz.zeroValue21
 t37:=Tryz.underlying52
 a37:=Tryz.isAgg52
 z37:=Tryz.sizeOf52
 v37:=Tryz.zeroValue52
 t46:=Tryz.underlying148
 a46:=Tryz.isAgg148
 z46:=Tryz.sizeOf148
 v46:=Tryz.zeroValue148
 t51:=Tryz.underlying146
 a51:=Tryz.isAgg146
 z51:=Tryz.sizeOf146
 v51:=Tryz.zeroValue146
 t53:=Tryz.underlying113
 a53:=Tryz.isAgg113
 z53:=Tryz.sizeOf113
 v53:=Tryz.zeroValue113
 t75:=Tryz.underlying27
 a75:=Tryz.isAgg27
 z75:=Tryz.sizeOf27
 v75:=Tryz.zeroValue27
 t76:=Tryz.underlying55
 a76:=Tryz.isAgg55
 z76:=Tryz.sizeOf55
 v76:=Tryz.zeroValue55
 t85:=Tryz.underlying208
 a85:=Tryz.isAgg208
 z85:=Tryz.sizeOf208
 v85:=Tryz.zeroValue208
 t127:=Tryz.underlying77
 a127:=Tryz.isAgg77
 z127:=Tryz.sizeOf77
 v127:=Tryz.zeroValue77
 t143:=Tryz.underlying220
 a143:=Tryz.isAgg220
 z143:=Tryz.sizeOf220
 v143:=Tryz.zeroValue220
 t145:=Tryz.underlying222
 a145:=Tryz.isAgg222
 z145:=Tryz.sizeOf222
 v145:=Tryz.zeroValue222
 t167:=Tryz.underlying207
 a167:=Tryz.isAgg207
 z167:=Tryz.sizeOf207
 v167:=Tryz.zeroValue207
 t168:=Tryz.underlying210
 a168:=Tryz.isAgg210
 z168:=Tryz.sizeOf210
 v168:=Tryz.zeroValue210
 t171:=Tryz.underlying112
 a171:=Tryz.isAgg112
 z171:=Tryz.sizeOf112
 v171:=Tryz.zeroValue112
 t173:=Tryz.underlying116
 a173:=Tryz.isAgg116
 z173:=Tryz.sizeOf116
 v173:=Tryz.zeroValue116
 t175:=Tryz.underlying213
 a175:=Tryz.isAgg213
 z175:=Tryz.sizeOf213
 v175:=Tryz.zeroValue213
 t210:=Tryz.underlying217
 a210:=Tryz.isAgg217
 z210:=Tryz.sizeOf217
 v210:=Tryz.zeroValue217
 t212:=Tryz.underlying145
 a212:=Tryz.isAgg145
 z212:=Tryz.sizeOf145
 v212:=Tryz.zeroValue145
 t213:=Tryz.underlying147
 a213:=Tryz.isAgg147
 z213:=Tryz.sizeOf147
 t232:=Tryz.underlying173
 a232:=Tryz.isAgg173
 z232:=Tryz.sizeOf173
 v232:=Tryz.zeroValue173
 t233:=Tryz.underlying174
 a233:=Tryz.isAgg174
 z233:=Tryz.sizeOf174
 v233:=Tryz.zeroValue174
 g15:=by kernel_rfl
 g16:=by kernel_rfl
 g17:=by kernel_rfl
 g18:=by kernel_rfl
 g19:=by kernel_rfl
 t80:=Tryz.underlying61
 a80:=Tryz.isAgg61
 z80:=Tryz.sizeOf61
 v80:=Tryz.zeroValue61
 i0:=by kernel_rfl
 i2:=by kernel_rfl
 i3:=by kernel_rfl
 i4:=by kernel_rfl
 i5:=by kernel_rfl
 i9:=by kernel_rfl
 i20:=by kernel_rfl
 i21:=by kernel_rfl
 i37:=by kernel_rfl
 i46:=by kernel_rfl
 i51:=by kernel_rfl
 i53:=by kernel_rfl
 i75:=by kernel_rfl
 i76:=by kernel_rfl
 i80:=by kernel_rfl
 i85:=by kernel_rfl
 i127:=by kernel_rfl
 i143:=by kernel_rfl
 i145:=by kernel_rfl
 i167:=by kernel_rfl
 i168:=by kernel_rfl
 i171:=by kernel_rfl
 i173:=by kernel_rfl
 i175:=by kernel_rfl
 i210:=by kernel_rfl
 i212:=by kernel_rfl
 i232:=by kernel_rfl
 i233:=by kernel_rfl
 m15:=by kernel_rfl
 m16:=by kernel_rfl
 m17:=by kernel_rfl
 m18:=by kernel_rfl
 m19:=by kernel_rfl
 c0:=by kernel_rfl
 c2:=by kernel_rfl
 c3:=by kernel_rfl
 c4:=by kernel_rfl
 c5:=by kernel_rfl
 c9:=by kernel_rfl
 c20:=by kernel_rfl
 c21:=by kernel_rfl
 c37:=by kernel_rfl
 c46:=by kernel_rfl
 c51:=by kernel_rfl
 c53:=by kernel_rfl
 c75:=by kernel_rfl
 c76:=by kernel_rfl
 c80:=by kernel_rfl
 c85:=by kernel_rfl
 c127:=by kernel_rfl
 c143:=by kernel_rfl
 c145:=by kernel_rfl
 c167:=by kernel_rfl
 c168:=by kernel_rfl
 c171:=by kernel_rfl
 c173:=by kernel_rfl
 c175:=by kernel_rfl
 c210:=by kernel_rfl
 c212:=by kernel_rfl
 c213:=by kernel_rfl
 c232:=by kernel_rfl
 c233:=by kernel_rfl }
open Go.RowKit in
def Tryz.strconv_Atoi_ok (s:ByteArray) (dP:s.size<=9223372036854775806) (v:Int) (h:Lib.atoiAll s.data.toList=.ok v) (w:World) :
  Calls Tryz.prog 138 #[.string s] w fun e w'=>e=.returned (.tuple #[.int .i64 v,.nilIface])∧(w'=w∨∃ t,w'=Lib.bytesWorld w 5 t):=Any.strconv_Atoi_ok Tryz.laysC172 s dP v h w
def Tryz.lays137_ren:Go.Shelf.Ren:=⟨fun | 137=>124 | 217=>132 | 266=>137 | n=>n,fun | 9=>9 | 5=>5 | 3=>3 | n=>n,fun | n=>n⟩
def Tryz.lays137:Go.Proofs.Lays.n137 Tryz.prog Tryz.lays137_ren:={
 mixed:=by kernel_rfl
 f137:=Tryz.func124.trans (congrArg some (by kernel_rfl))
 f217:=Tryz.func132.trans (congrArg some (by kernel_rfl))
 f266:=Tryz.func137.trans (congrArg some (by kernel_rfl))
 t3:=Tryz.underlying3
 a3:=Tryz.isAgg3
 z3:=Tryz.sizeOf3
 v3:=Tryz.zeroValue3
 t5:=Tryz.underlying5
 a5:=Tryz.isAgg5
 z5:=Tryz.sizeOf5
 v5:=Tryz.zeroValue5
 t9:=Tryz.underlying9
 a9:=Tryz.isAgg9
 z9:=Tryz.sizeOf9
 v9:=Tryz.zeroValue9 }
open Go.RowKit in
def Tryz.strings_IndexByte (s:ByteArray) (c:Int) (w:World) :
  Calls Tryz.prog 124 #[.string s,.int .u8 c] w fun e w'=>e=.returned (.int .i64 (Lib.indexByte s.data.toList c.toNat.toUInt8))∧w'=w:=Any.strings_IndexByte Tryz.lays137 s c w
end Go.Proofs
end
section
namespace Ab
open Go Go.RowKit Go.ChangeShapes
def Ty.flds:Ty->Option (List Ty)
 | .cell=>some [.int,.int]
 | .member=>some [.str,.int,.int,.str]
 | .dim=>some [.str,.int,.sl .member]
 | .outl=>some [.sl .dim]
 | .node=>some [.int,.int,.str,.int,.int]
 | .entry=>some [.sl .int,.int]
 | .edit=>some [.sl .int,.int,.bool]
 | .change=>some [.int,.int,.int,.str,.int,.int]
 | .grid=>some [.sl .int,.sl .int,.sl (.sl .cell)]
 | _=>none
def mtL (P:Program) (f:TypeId->Ty->Bool):Nat->List Field->List Ty->Bool
 | _,[],[]=>true
 | o,x :: l,t :: r=>f x.type t && (x.offset == o && P.cellsOf x.type == 1 && t.z == 1) && mtL P f (o+1) l r
 | _,_,_=>false
def mt (P:Program):Nat->TypeId->Ty->Bool
 | 0,_,_=>false
 | k+1,t,ty=>match P.underlying t,ty with
  | some (.int .i64),.int=>true
  | some (.int .u8),.u8=>true
  | some .bool,.bool=>true
  | some .string,.str=>true
  | some (.slice e),.sl t'=>mt P k e t' && P.cellsOf e == t'.z
  | some (.struct fs),ty=>(match ty.flds with | some l=>mtL P (mt P k) 0 fs.toList l | none=>false) && P.cellsOf t == ty.z
  | _,_=>false
@[reducible] def TyL:List Ty->Type
 | []=>Unit
 | t :: r=>t.den×TyL r
def zgm:(l:List Ty)->TyL l->List AV
 | [],_=>[]
 | t :: r,x=>t.cells x.1++zgm r x.2
def gdL:(l:List Ty)->TyL l->Prop
 | [],_=>True
 | t :: r,x=>t.gd x.1∧gdL r x.2
def flds_val {ty:Ty} {l:List Ty} (h:ty.flds=some l) (x:TyL l) (hg:gdL l x):∃ y:ty.den,ty.gd y∧ty.cells y=zgm l x:=by
 cases ty<;>simp only[Ty.flds,Option.some.injEq,reduceCtorEq] at h<;>subst h
 ·exact ⟨⟨x.1,x.2.1⟩,⟨hg.1,hg.2.1⟩,rfl⟩
 ·exact ⟨⟨x.1,x.2.1,x.2.2.1,x.2.2.2.1⟩,⟨hg.1,hg.2.1,hg.2.2.1,hg.2.2.2.1⟩,rfl⟩
 ·exact ⟨⟨x.1,x.2.1,x.2.2.1⟩,⟨hg.1,hg.2.1,hg.2.2.1⟩,rfl⟩
 ·exact ⟨x.1,hg.1,rfl⟩
 ·exact ⟨⟨x.1,x.2.1,x.2.2.1,x.2.2.2.1,x.2.2.2.2.1⟩,⟨hg.1,hg.2.1,hg.2.2.1,hg.2.2.2.1,hg.2.2.2.2.1⟩,rfl⟩
 ·exact ⟨⟨x.1,x.2.1⟩,⟨hg.1,hg.2.1⟩,rfl⟩
 ·exact ⟨⟨x.1,x.2.1,x.2.2.1⟩,⟨hg.1,hg.2.1⟩,rfl⟩
 ·exact ⟨⟨x.1,x.2.1,x.2.2.1,x.2.2.2.1,x.2.2.2.2.1,x.2.2.2.2.2.1⟩,⟨hg.1,hg.2.1,hg.2.2.1,hg.2.2.2.1,hg.2.2.2.2.1,hg.2.2.2.2.2.1⟩,rfl⟩
 ·exact ⟨⟨x.1,x.2.1,x.2.2.1⟩,True.intro,rfl⟩
def flds_len {ty:Ty} {l:List Ty} (h:ty.flds=some l):l.length=ty.z:=by cases ty<;>simp only[Ty.flds,Option.some.injEq,reduceCtorEq] at h<;>subst h<;>rfl
def nX {α β:Type} {f:α->Option β}:∀ {l:List α} {ys:List β},l.mapM f=some ys->ys.length=l.length∧∀ (i:Nat) (a:α),l[i]? = some a->∃ y,ys[i]? = some y∧f a=some y:=by
 intro l
 induction l with
 | nil=>intro ys h;simp at h;subst h;simp
 | cons a l ih =>
  intro ys h;rw[List.mapM_cons] at h;cases hf:f a with
  | none=>rw[hf] at h;simp at h
  | some y =>
   rw[hf] at h;cases hl:l.mapM f with
   | none=>rw[hl] at h;simp at h
   | some zs =>
    rw[hl] at h;simp at h;subst h;obtain ⟨h1,h2⟩:=ih hl;refine ⟨by simp[h1],fun i b hb => ?_⟩;cases i with
    | zero=>simp at hb;subst hb;exact ⟨y,by simp,hf⟩
    | succ i=>simpa using h2 i b (by simpa using hb)
def oB {α:Type} {p:Nat->α->Prop}:∀ (n:Nat),(∀ i,i < n->∃ x,p i x)->∃ xs:List α,xs.length=n∧∀ (i:Nat) (x:α),xs[i]? = some x->p i x
 | 0,_=>⟨[],rfl,by simp⟩
 | n+1,h=>by
  obtain ⟨xs,h1,h2⟩:=oB n fun i hi=>h i (by omega);obtain ⟨x,hx⟩:=h n (by omega);refine ⟨xs++[x],by simp[h1],fun i y hy => ?_⟩;by_cases hi:i < n
  ·rw[List.getElem?_append_left (by omega)] at hy;exact h2 i y hy
  ·have aQ:i=n:=(by have:=(List.getElem?_eq_some_iff.1 hy).1;simp[h1] at this;omega);subst aQ;rw[List.getElem?_append_right (by omega),h1] at hy;simp at hy;subst hy;exact hx
section
variable {H:Type} {enc:TypeId×Value->H} {S:Seat} {W:World} {held:Bool} {spare:Nat->Bool}
def Rd (S:Seat) (W:World) (ty:Ty) (cs:List Value):Prop :=
 ∃ x:ty.den,ty.gd x∧cs.length=ty.z∧(∀ u∈cs,u.oneCell'=true)∧∀ (i:Nat) (c:AV),(ty.cells x)[i]? = some c->VR0 S (fun b=>b < W.heap.size) W c (cs.getD i undef)
def mtL_ok {P:Program} {f:TypeId->Ty->Bool} {r:TypeId->List Value->Option (DataW H×List MemPlace)} (hr:∀ t ty cs d,f t ty=true->r t cs=some d->Rd S W ty cs) (cs:List Value) :
  ∀ (fs:List Field) (l:List Ty) (o:Nat) (ys:List (DataW H×List MemPlace)),mtL P f o fs l=true->o+l.length=cs.length->(fs.mapM fun f=>r f.type ((cs.drop f.offset).take (P.cellsOf f.type)))=some ys ->
   ∃ x:TyL l,gdL l x∧(∀ j,o<=j->j < cs.length->(cs.getD j undef).oneCell'=true)∧∀ (i:Nat) (c:AV),(zgm l x)[i]? = some c->VR0 S (fun b=>b < W.heap.size) W c (cs.getD (o+i) undef):=by
 intro fs
 induction fs with
 | nil =>
  intro l o ys h hl _;cases l with
  | nil=>exact ⟨(),True.intro,fun j h1 h2=>by simp at hl;omega,by simp[zgm]⟩
  | cons=>simp[mtL] at h
 | cons g fs ih =>
  intro l o ys h hl hm;cases l with
  | nil=>simp[mtL] at h
  | cons t l =>
   simp only[mtL,and_eq_true,beq_iff_eq] at h;obtain ⟨⟨h1,⟨h2,h3⟩,h4⟩,h5⟩:=h;rw[List.mapM_cons] at hm;cases hf:r g.type ((cs.drop g.offset).take (P.cellsOf g.type)) with
   | none=>rw[hf] at hm;simp at hm
   | some d =>
    rw[hf] at hm;cases hk:(fs.mapM fun f=>r f.type ((cs.drop f.offset).take (P.cellsOf f.type))) with
    | none=>rw[hk] at hm;simp at hm
    | some ds =>
     obtain ⟨x,kg,k1,k2,k3⟩:=hr _ _ _ _ h1 hf;simp only[List.length_cons] at hl;obtain ⟨y,mg,m1,m2⟩:=ih l (o+1) ds h5 (by omega) hk;have aj:(cs.drop g.offset).take (P.cellsOf g.type)=[cs.getD o undef]:=by
      rw[h2,h3];have ho:o < cs.length:=by omega
      rw[List.drop_eq_getElem_cons ho];rw[List.take_succ_cons,List.take_zero];simp[List.getD,ho]
     rw[aj] at k1 k2 k3;refine ⟨(x,y),⟨kg,mg⟩,fun j hj bF => ?_,fun i c hi => ?_⟩
     ·by_cases hjo:j=o
      ·subst hjo;exact k2 _ (by simp)
      ·exact m1 j (by omega) bF
     ·simp only[zgm] at hi;have fO:(t.cells x).length=1:=by rw[j8];exact h4
      cases i with
      | zero =>rw[List.getElem?_append_left (by omega)] at hi;simpa using k3 0 c hi
      | succ i =>
       rw[List.getElem?_append_right (by omega),fO] at hi;have:=m2 i c (by simpa using hi)
       rwa [Nat.add_assoc,Nat.add_comm 1 i] at this
def addr_add (a:Addr) (n:Nat) (h:a.spot=none):a.add n=⟨a.block,a.off+n,none⟩:=by obtain ⟨b,o,s⟩:=a;simp at h;subst h;unfold Addr.add;by_cases hn:n=0<;>simp[hn]
def lB {w:World} {a:Addr} {n:Nat} {cs:List Value} (h:w.cells? 0 a n=some cs):cs.length=n∧∀ i,i < n->w.cell? (a.add i)=some (cs.getD i undef):=by unfold World.cells? at h;rw[if_pos (zero_le _)] at h;obtain ⟨h1,h2⟩:=nX h;refine ⟨by simpa using h1,fun i hi => ?_⟩;obtain ⟨y,hy,eE⟩:=h2 i i (by simp[hi]);rw[eE];simp[List.getD,hy]
def zej {P:Program}:∀ (k n:Nat) (t:TypeId) (ty:Ty) (cs:List Value) (d:DataW H×List MemPlace),mt P k t ty=true->DataW.trod enc P W 0 spare held n t cs=some d->Rd S W ty cs:=by
 intro k
 induction k with
 | zero=>intro n t ty cs d h;simp[mt] at h
 | succ k ih =>
  intro n t ty cs d hm h;cases n with
  | zero=>simp[DataW.trod] at h
  | succ n =>
   rw[DataW.trod_step] at h;unfold DataW.trodStep at h;simp only[mt] at hm;have one:∀ (v:Value),v.oneCell'=true->∀ x:ty.den,ty.gd x->ty.cells x=[.v v]->Rd S W ty [v]:=by
    intro v hv x hg hx;have hz:=j8 ty x;rw[hx] at hz;refine ⟨x,hg,by simpa using hz,by simpa using hv,fun i c hc => ?_⟩;rw[hx] at hc;cases i with
    | zero=>simp at hc;subst hc;exact .v _
    | succ i=>simp at hc
   split at hm
   ·rename_i hu;obtain ⟨n',hw,rfl⟩:∃ n',(Lit.int .i64 n').wf=true∧cs=[.int .i64 n']:=(by rw[hu] at h;split at h<;>simp_all);exact one _ rfl n' (by simp[Lit.wf,IntKind.min,IntKind.max,IntKind.signed,IntKind.bits] at hw;exact ⟨by omega,by omega⟩) rfl
   ·rename_i hu;obtain ⟨n',h1,rfl⟩:∃ n',(Lit.int .u8 n').wf=true∧cs=[.int .u8 n']:=(by rw[hu] at h;split at h<;>simp_all);have hb:0<=n'∧n'<=255:=by simp[Lit.wf,IntKind.min,IntKind.max,IntKind.signed,IntKind.bits] at h1;omega
    refine one _ rfl (UInt8.ofNat n'.toNat) True.intro ?_;simp only[Ty.cells,aU];have:(UInt8.ofNat n'.toNat).toNat=n'.toNat:=(by simp;omega);rw[this,Int.toNat_of_nonneg hb.1]
   ·rename_i hu;obtain ⟨b,rfl⟩:∃ b,cs=[.bool b]:=(by rw[hu] at h;split at h<;>simp_all);exact one _ rfl b True.intro rfl
   ·rename_i hu;obtain ⟨b,hb,rfl⟩:∃ b:ByteArray,b.size<=maxLen∧cs=[.string b]:=(by rw[hu] at h;split at h<;>simp_all);exact one _ rfl b hb rfl
   ·rename_i e t' hu;simp only[and_eq_true,beq_iff_eq] at hm;obtain ⟨hm,hz⟩:=hm;have hf:cs=[.slice none 0 0]∨∃ a len cap ys,cs=[.slice (some a) len cap]∧len<=cap∧cap<=maxLen∧(List.range len).mapM (fun i=>(W.cells? 0 (a.add (i * P.cellsOf e)) (P.cellsOf e)).bind (DataW.trod enc P W 0 spare held n e))=some ys:=by
     rw[hu] at h;split at h
     case h_8 =>
      rename_i e' a len cap he;cases he;simp only at h;split at h
      ·rename_i hc;cases hq:(List.range len).mapM (fun i=>(W.cells? 0 (a.add (i * P.cellsOf e)) (P.cellsOf e)).bind (DataW.trod enc P W 0 spare held n e)) with
       | none=>rw[hq] at h;simp at h
       | some ys=>exact .inr ⟨a,len,cap,ys,rfl,hc.2.1,hc.2.2,hq⟩
      ·cases h
     all_goals simp_all
    rcases hf with rfl | ⟨a,len,cap,ys,rfl,hle,hcm,hq⟩
    ·exact ⟨([]:List t'.den),⟨zero_le _,by simp⟩,rfl,by simp[Value.oneCell'],fun i c hc=>by
      cases i with
      | zero=>simp[Ty.cells] at hc;subst hc;exact .slnil _
      | succ i=>simp[Ty.cells] at hc⟩
    ·obtain ⟨q1,q2⟩:=nX hq;have all:∀ i,i < len->∃ x:t'.den,∃ cs,t'.gd x∧W.cells? 0 (a.add (i * t'.z)) t'.z=some cs∧(∀ u∈cs,u.oneCell'=true)∧∀ (i:Nat) (c:AV),(t'.cells x)[i]? = some c->VR0 S (fun b=>b < W.heap.size) W c (cs.getD i undef):=by
      intro i hi;obtain ⟨y,_,hy⟩:=q2 i i (by simp[hi]);rw[hz] at hy;cases aj:W.cells? 0 (a.add (i * t'.z)) t'.z with
      | none=>rw[aj] at hy;simp at hy
      | some cs =>rw[aj] at hy;obtain ⟨x,kg,k1,k2,k3⟩:=ih n e t' cs y hm (by simpa using hy);exact ⟨x,cs,kg,rfl,k2,k3⟩
     obtain ⟨xs,aC,cm⟩:=oB len all;have main:VR0 S (fun b=>b < W.heap.size) W (.sl t'.z (xs.map t'.cells)) (.slice (some a) len cap):=by
      by_cases h0:len=0
      ·subst h0;cases xs with
       | nil=>exact .slemp _ _ _
       | cons=>simp at aC
      ·have da:0 < t'.z:=by cases t'<;>simp[Ty.z]
       obtain ⟨x0,az⟩:∃ x,xs[0]? = some x:=⟨xs[0]'(by omega),getElem?_eq_getElem (by omega)⟩;obtain ⟨bo,_,g1,_,_⟩:=cm 0 x0 az;have kZ:=(lB g1).2 0 da;have kj:W.cell? a=some (bo.getD 0 undef):=(by simpa[Addr.add] using kZ);have dH:a.spot=none:=World.cell?_spot kj;have hb:a.block < W.heap.size:=World.block_lt_of_cell? W a kj;have aV:∀ j,j < xs.length * t'.z->∃ cs x,xs[j / t'.z]? = some x∧W.cells? 0 (a.add (j / t'.z * t'.z)) t'.z=some cs∧W.cell? ⟨a.block,a.off+j,none⟩=some (cs.getD (j % t'.z) undef)∧(cs.getD (j % t'.z) undef).oneCell'=true:=by
        intro j hj;have oY:j / t'.z < xs.length:=Nat.div_lt_of_lt_mul (by rw[Nat.mul_comm];exact hj);have hj2:j % t'.z < t'.z:=Nat.mod_lt _ da;obtain ⟨cs,_,g1,g2,g3⟩:=cm _ _ (getElem?_eq_getElem oY);have g4:=lB g1;have g5:=g4.2 _ hj2;rw[addr_add _ _ dH,addr_add _ _ rfl] at g5;have e:a.off+j / t'.z * t'.z+j % t'.z=a.off+j:=by have:=Nat.div_add_mod j t'.z;rw[Nat.mul_comm] at this;omega
        refine ⟨cs,_,getElem?_eq_getElem oY,g1,by rw[← e];exact g5,g2 _ ?_⟩;rw[List.getD_eq_getElem?_getD,getElem?_eq_getElem (by omega)];exact List.getElem_mem _
       have:=VR0.sl (S:=S) (A:=fun b=>b < W.heap.size) (w:=W) (z:=t'.z) (es:=xs.map t'.cells) (b:=a.block) (o:=a.off) (cap:=cap) (u:=fun j=>(W.cell? ⟨a.block,a.off+j,none⟩).getD undef) hb (by simp[aC,hle])
        (fun e he=>by obtain ⟨x,_,rfl⟩:=List.mem_map.1 he;exact j8 _ _)
        (fun j hj=>by obtain ⟨cs,x,_,_,g,_⟩:=aV j (by simpa using hj);simp[g])
        (fun j hj=>by obtain ⟨cs,x,_,_,g,g'⟩:=aV j (by simpa using hj);simpa[g] using g')
        (fun i e c y hi hc=>by
         simp only[List.getElem?_map,Option.map_eq_some_iff] at hi;obtain ⟨x,hx,rfl⟩:=hi;obtain ⟨cs,_,g1,g2,g3⟩:=cm i x hx;have dV:c < t'.z:=by have:=(List.getElem?_eq_some_iff.1 hc).1;rwa [j8] at this
         have g5:=(lB g1).2 _ dV;rw[addr_add _ _ dH,addr_add _ _ rfl] at g5;simp only at g5;rw[Nat.add_assoc] at g5;simp only[g5,Option.getD_some];exact g3 c y hc)
       have ea:a=⟨a.block,a.off,none⟩:=by cases a;simp at dH;simp[dH]
       rw[ea];simpa[aC] using this
     exact ⟨(xs:List t'.den),⟨by rw[aC];exact Nat.le_trans hle hcm,fun x hx=>by
      obtain ⟨i,hi,rfl⟩:=List.getElem_of_mem hx;obtain ⟨_,g,_⟩:=cm i _ (getElem?_eq_getElem hi);exact g⟩,rfl,by simp[Value.oneCell'],fun i c hc=>by
      cases i with
      | zero=>simp[Ty.cells] at hc;subst hc;exact main
      | succ i=>simp[Ty.cells] at hc⟩
   ·rename_i fs hu;simp only[and_eq_true,beq_iff_eq] at hm;obtain ⟨hm,hz⟩:=hm;split at hm
    ·rename_i l hl;have hf:cs.length=P.cellsOf t∧∃ ys,(fs.toList.mapM fun f=>DataW.trod enc P W 0 spare held n f.type ((cs.drop f.offset).take (P.cellsOf f.type)))=some ys:=by
      rw[hu] at h;split at h
      case h_9 =>
       rename_i cs _ _ fs' he;cases he;split at h
       ·rename_i hc;cases hq:(fs.toList.mapM fun f=>DataW.trod enc P W 0 spare held n f.type ((cs.drop f.offset).take (P.cellsOf f.type))) with
        | none=>rw[hq] at h;simp at h
        | some ys=>exact ⟨hc,ys,rfl⟩
       ·cases h
      all_goals simp_all
     obtain ⟨h1,ys,h2⟩:=hf;obtain ⟨x,kg,k1,k2⟩:=mtL_ok (S:=S) (W:=W) (fun t ty cs d a b=>ih n t ty cs d a b) cs fs.toList l 0 ys hm (by rw[h1,hz,← flds_len hl];omega) h2;obtain ⟨y,yg,e1⟩:=flds_val hl x kg;refine ⟨y,yg,by rw[h1,hz],fun u hu => ?_,fun i c hc=>by rw[e1] at hc;simpa using k2 i c hc⟩;obtain ⟨j,hj,rfl⟩:=List.getElem_of_mem hu;have:=k1 j (zero_le _) hj;simpa[List.getD,hj] using this
    ·cases hm
   ·cases hm
def ma (P:Program) (t:TypeId):Sh->Bool
 | .int=>match P.underlying t with | some (.int .i64)=>true | _=>false
 | .bool=>match P.underlying t with | some .bool=>true | _=>false
 | .str=>match P.underlying t with | some .string=>true | _=>false
 | .sl ty=>match P.underlying t with | some (.slice e)=>mt P 8 t (.sl ty) | _=>false
 | .st ty=>match P.underlying t with | some (.struct fs)=>mt P 8 t ty | _=>false
 | _=>false
def open_arg {P:Program} {r:Reach} {b0:Nat} {t:TypeId} {sh:Sh} {v:Value} {d:DataW H} {p:List MemPlace} (hm:ma P t sh=true) (hval:Value.okWide P W r b0 t v) (h:DataW.Trod enc P W 0 spare held t v d p) :
  ∃ x:sh.den,sh.gd x∧VR0 S (fun b=>b < W.heap.size) W (encA sh x) v:=by
 obtain ⟨fuel,hf⟩:=h;cases sh<;>simp only[ma] at hm<;>try (cases hm;done)
 all_goals split at hm
 all_goals try (cases hm;done)
 ·rename_i hu;obtain ⟨n,rfl⟩:=WideShapes.okWide_int hu hval;obtain ⟨x,g,_,_,k⟩:=zej (S:=S) 1 fuel t .int _ _ (by simp[mt,hu]) hf;exact ⟨x,g,k 0 _ rfl⟩
 ·rename_i hu;obtain ⟨n,rfl⟩:=WideShapes.okWide_bool hu hval;exact ⟨n,True.intro,.v _⟩
 ·rename_i hu;obtain ⟨n,rfl⟩:=WideShapes.okWide_string hu hval;obtain ⟨x,g,_,_,k⟩:=zej (S:=S) 1 fuel t .str _ _ (by simp[mt,hu]) hf;exact ⟨x,g,k 0 _ rfl⟩
 ·rename_i hu;obtain ⟨a,len,cap,rfl⟩:=WideShapes.okWide_slice hu hval;obtain ⟨x,g,_,_,k⟩:=zej (S:=S) 8 fuel t _ _ _ hm hf;exact ⟨x,g,k 0 _ rfl⟩
 ·rename_i ty fs hu;simp only[Value.okWide,hu] at hval;obtain ⟨cs,rfl,_⟩:=hval;obtain ⟨x,g,k1,_,k⟩:=zej (S:=S) 8 fuel t _ _ _ hm hf;refine ⟨x,g,.agg (by rw[j8,← k1];simp[Value.cells]) fun i c hc => ?_⟩;have:=k i c hc;simpa[Value.cells,Array.getD_eq_getD_getElem?,List.getD] using this
end
end Ab
end
