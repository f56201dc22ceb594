import Derived.Lib.AtoiAllCases
import Derived.Test.YtkaifdgeigdbhaaGreatDoorC7
set_option linter.all false
namespace Ab
open Go
section
set_option maxRecDepth 100000
section
variable (F157:Int->(Option ByteArray)) (F241:LN->(Option Err)) (F252:Int->(Option Bool)) (F254:LN->Int->(Option ByteArray)) (F260:Int->(Option Bool))
end
end
section
def itoaB (n:Int):ByteArray:=⟨(Lib.itoa n).toArray⟩
end
section
end
section
inductive Fx where
 | num (n:Int)
 | ref (s:ByteArray)
 | bin (o:Int) (a b:Fx)
def Fx.op:Fx->Int
 | .num _=>1
 | .ref _=>2
 | .bin o _ _=>o
def Fx.Fine:Fx->Prop
 | .num n=>0<=n∧n<=1000000
 | .ref s=>zR s=false
 | .bin o a b=>3<=o∧o<=6∧a.Fine∧b.Fine
def Fx.Fine.op {e:Fx} (h:e.Fine):1<=e.op∧e.op<=6:=by
 cases e with
 | num n=>exact ⟨by simp[Fx.op],by simp[Fx.op]⟩
 | ref s=>exact ⟨by simp[Fx.op],by simp[Fx.op]⟩
 | bin o a b=>obtain ⟨h1,h2,_⟩:=h;exact ⟨by show 1<=o;omega,h2⟩
def Tr (l:List Node):Fx->Nat->Prop
 | .num n,i=>l[i]? = some ⟨1,n,⟨#[]⟩,0,0⟩
 | .ref s,i=>l[i]? = some ⟨2,0,s,0,0⟩
 | .bin o a b,i=>∃ m k:Nat,l[i]? = some ⟨o,0,⟨#[]⟩,m,k⟩∧m < i∧k < i∧Tr l a m∧Tr l b k
def Tr.lt {l:List Node}:∀ {e:Fx} {i:Nat},Tr l e i->i < l.length
 | .num n,i,h=>(Ac.1 h).1
 | .ref n,i,h=>(Ac.1 h).1
 | .bin o a b,i,h=>by
  obtain ⟨m,k,h,_⟩:=h;exact (Ac.1 h).1
def Tr.at_ {l:List Node}:∀ {e:Fx} {i:Nat},Tr l e i->∃ x,l[i]? = some x∧x.op=e.op
 | .num n,i,h=>⟨_,h,rfl⟩
 | .ref n,i,h=>⟨_,h,rfl⟩
 | .bin o a b,i,h=>by
  obtain ⟨m,k,h,_⟩:=h;exact ⟨_,h,rfl⟩
def Tr.app {l:List Node} (r:List Node):∀ {e:Fx} {i:Nat},Tr l e i->Tr (l++r) e i
 | .num n,i,h=>by
  have:=h.lt;exact (Ax this).trans h
 | .ref n,i,h=>by
  have:=h.lt;exact (Ax this).trans h
 | .bin o a b,i,h=>by
  have hl:=h.lt;obtain ⟨m,k,h,h1,h2,h3,h4⟩:=h;exact ⟨m,k,(Ax hl).trans h,h1,h2,h3.app r,h4.app r⟩
section
variable {l:List Node}
-- as text
def tight (o:Int):Bool:=o == 5 || o == 6
def parB (c:Bool) (t:ByteArray):ByteArray:=if c=true then ⟨#[40]⟩++t++⟨#[41]⟩ else t
def sgB (o:Int):ByteArray:=if o=3 then ⟨#[43]⟩ else if o=4 then ⟨#[45]⟩ else if o=5 then ⟨#[42]⟩ else ⟨#[47]⟩
def lpar (o c:Int):Bool:=decide (3<=c) && (tight o && !tight c)
def rpar (o c:Int):Bool:=decide (3<=c) && (tight o || !tight c)
def Fx.text:Fx->ByteArray
 | .num n=>itoaB n
 | .ref s=>s
 | .bin o a b=>parB (lpar o a.op) a.text++sgB o++parB (rpar o b.op) b.text
-- what it comes to
def Fx.val (names:List ByteArray) (cells:List Cell):Fx->Cell
 | .num n=>zes n
 | .ref s=>cells.getD (nmI names s).toNat ⟨0,0⟩
 | .bin o a b=>if o=3 then zjD (a.val names cells) (b.val names cells) 1 else if o=4 then zjD (a.val names cells) (b.val names cells) (-1) else if o=5 then zgN (a.val names cells) (b.val names cells) else cover (a.val names cells) (b.val names cells)
-- its nodes in a row
end
end
section
-- to whom it refers
def Fx.refs:Fx->List ByteArray
 | .num _=>[]
 | .ref s=>[s]
 | .bin _ a b=>a.refs++b.refs
section
variable {l:List Node}
end
end
end Ab
