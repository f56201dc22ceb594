/-
  Which values may come in: numbers in their range, lists and texts of no more than may be.
-/
import Derived.Test.YtchidgkpkhloeaaGreatDoorB1
namespace Ab
open Go
def I64 (n : Int) : Prop := -9223372036854775808 ≤ n ∧ n ≤ 9223372036854775807
def Str (s : ByteArray) : Prop := s.size ≤ 9223372036854775807
def Lst {α : Type} (p : α → Prop) (l : List α) : Prop := l.length ≤ 9223372036854775807 ∧ ∀ x ∈ l, p x
def Cell.gd (c : Cell) : Prop := I64 c.k ∧ I64 c.n
def Member.gd (m : Member) : Prop := Str m.name ∧ I64 m.parent ∧ I64 m.sign ∧ Str m.formula
def Dim.gd (d : Dim) : Prop := Str d.name ∧ I64 d.solve ∧ Lst Member.gd d.members
def Node.gd (x : Node) : Prop := I64 x.op ∧ I64 x.n ∧ Str x.name ∧ I64 x.left ∧ I64 x.right
def Entry.gd (e : Entry) : Prop := Lst I64 e.at_ ∧ I64 e.n
def Edit.gd (e : Edit) : Prop := Lst I64 e.at_ ∧ I64 e.n
def Change.gd (c : Change) : Prop := I64 c.what ∧ I64 c.dim ∧ I64 c.member ∧ Str c.name ∧ I64 c.to ∧ I64 c.sign
def Ty.gd : (t : Ty) → t.den → Prop
  | .int, n => I64 n
  | .str, s => Str s
  | .cell, c => Cell.gd c
  | .member, m => Member.gd m
  | .dim, d => Dim.gd d
  | .outl, o => Lst Dim.gd o
  | .node, x => Node.gd x
  | .entry, e => Entry.gd e
  | .edit, e => Edit.gd e
  | .change, c => Change.gd c
  | .sl t, xs => Lst t.gd xs
  | _, _ => True
def Sh.gd : (sh : Sh) → sh.den → Prop
  | .int, n => I64 n
  | .str, s => Str s
  | .sl t, xs => Ty.gd (.sl t) xs
  | .st t, x => t.gd x
  | _, _ => True
end Ab
