import Derived.Test.YtkaifdgeigdbhaaGreatDoorF1
set_option linter.unusedVariables false
noncomputable section
namespace Ab
open Go
section
set_option maxRecDepth 100000
section
variable (F105:Err->(Option Int))
def tc24:TCode:=.seq (rg [om 4 (cb false)]) (.seq (.seq (rg [om 6 0,oq 7 (.len false 6),om 8 1,oq 9 (.len false 8),oq 10 (.bin .int .neq 7 9)]) (.cond 10 (.seq (rg [om 4 (cb false)]) (.ret)) (.skip))) (.seq (.seq (rg [om 5 (ci 0)]) (.loop ⟨[.slot 5 .int],[11,12,13,14,15,16,17,18,19,20,21,22,23,24,25],[],[]⟩ 0 (.seq (.seq (rg [om 11 5,om 12 0,oq 13 (.len false 12),oq 14 (.bin .int .lss 11 13)]) (.cond 14 (.skip) (.exit 0))) (.seq (.block 1 (.seq (.region [om 17 0,om 18 5,od 19 (.ia 2 17 18) [0,1],od 20 (.load (some 2) 19) [2],om 21 1,om 22 5,od 23 (.ia 2 21 22) [4,5],od 24 (.load (some 2) 23) [6],od 25 (.eqa true [(0,.int),(1,.int)] 20 24) [3,7]] [] true) (.cond 25 (.seq (rg [om 4 (cb false)]) (.ret)) (.skip)))) (rg [om 15 5,oq 16 (.bin .int .add 15 (ci 1)),om 5 16]))))) (.seq (rg [om 4 (cb true)]) (.ret)))) 
def tf24:TFunc:=⟨2,26,[.tmp 4],false,tc24,[]⟩
def S24_L1 (a0:LC) (a1:LC) (x1:Int):Option (LR Int Bool) :=
 br (decide (x1 < ((List.length a0:Nat):Int)))
 (bno (zn a0 x1) fun y2 =>
 bno (zn a1 x1) fun y3 =>
 br (!(decide ((Cell.k y2)=(Cell.k y3)) && (decide ((Cell.n y2)=(Cell.n y3)) && true)))
 (jB (some false))
 (nxO (some (wi (x1+(1:Int))))))
 (dnO (some x1))
def S24 (a0:LC) (a1:LC):Option Bool :=
 br (decide (¬ ((List.length a0:Nat):Int)=((List.length a1:Nat):Int)))
 (some false)
 (lp (S24_L1 a0 a1) (0:Int) fun x4 =>
 some true)
def P24:=S24
def k24:CSpec:=⟨24,[(.sl .cell),(.sl .cell)],.bool,fun x=>P24 x.1 x.2,false,[]⟩
theorem r24 {S:Seat} (h:Ok1 S 24 tf24):RtF S [] (Rt S k24):=okr h rfl fun x=>by kernel_rfl
def tc104:TCode:=.seq (rg [om 4 (cb false)]) (.seq (.seq (rg [om 6 0,oq 7 (.len false 6),om 8 1,oq 9 (.len false 8),oq 10 (.bin .int .neq 7 9)]) (.cond 10 (.seq (rg [om 4 (cb false)]) (.ret)) (.skip))) (.seq (.seq (rg [om 5 (ci 0)]) (.loop ⟨[.slot 5 .int],[11,12,13,14,15,16,17,18,19,20,21,22,23,24,25],[],[]⟩ 0 (.seq (.seq (rg [om 11 5,om 12 0,oq 13 (.len false 12),oq 14 (.bin .int .lss 11 13)]) (.cond 14 (.skip) (.exit 0))) (.seq (.block 1 (.seq (.region [om 17 0,om 18 5,od 19 (.ia 1 17 18) [0,1],od 20 (.load none 19) [2],om 21 1,om 22 5,od 23 (.ia 1 21 22) [4,5],od 24 (.load none 23) [6],od 25 (.bin .int .neq 20 24) [3,7]] [] true) (.cond 25 (.seq (rg [om 4 (cb false)]) (.ret)) (.skip)))) (rg [om 15 5,oq 16 (.bin .int .add 15 (ci 1)),om 5 16]))))) (.seq (rg [om 4 (cb true)]) (.ret)))) 
def tf104:TFunc:=⟨2,26,[.tmp 4],false,tc104,[]⟩
def zhv (a0:LI) (a1:LI) (x1:Int):Option (LR Int Bool) :=
 br (decide (x1 < ((List.length a0:Nat):Int)))
 (bno (zn a0 x1) fun y2 =>
 bno (zn a1 x1) fun y3 =>
 br (decide (¬ y2=y3))
 (jB (some false))
 (nxO (some (wi (x1+(1:Int))))))
 (dnO (some x1))
def S104 (a0:LI) (a1:LI):Option Bool :=
 br (decide (¬ ((List.length a0:Nat):Int)=((List.length a1:Nat):Int)))
 (some false)
 (lp (zhv a0 a1) (0:Int) fun x4 =>
 some true)
def P104:=S104
def k104:CSpec:=⟨104,[(.sl .int),(.sl .int)],.bool,fun x=>P104 x.1 x.2,false,[]⟩
theorem r104 {S:Seat} (h:Ok1 S 104 tf104):RtF S [] (Rt S k104):=okr h rfl fun x=>by kernel_rfl
def S92 (a0:Err) (a1:Int):Option Bool :=
 bno (F105 a0) fun y1 =>
 some (decide (y1=a1))
def P92:=S92 P105
end
end
section
set_option maxRecDepth 100000
section
variable (F28:LI->LI->(Option Bool))
end
end
section
set_option maxRecDepth 100000
section
variable (F50:ByteArray->Int->(Option Dim)) (F68:Int->(Option ByteArray))
def tc68:TCode:=.seq (rg [om 2 (cs ⟨#[]⟩)]) (.seq (rg [om 5 0,oq 6 (.bin .int .quo 5 (ci 26)),oq 7 (.bin .int .rem 6 (ci 26)),om 3 7]) (.seq (rg [om 8 0,oq 9 (.bin .int .rem 8 (ci 26)),om 4 9]) (.seq (.region [om 10 3,om 11 3,od 12 (.bin .int .add 11 (ci 1)) [1],od 13 (.slc 0 (cs ⟨#[97,98,99,100,101,102,103,104,105,106,107,108,109,110,111,112,113,114,115,116,117,118,119,120,121,122]⟩) (some 10) (some 12)) [0,2],om 14 4,om 15 4,od 16 (.bin .int .add 15 (ci 1)) [5],od 17 (.slc 0 (cs ⟨#[97,98,99,100,101,102,103,104,105,106,107,108,109,110,111,112,113,114,115,116,117,118,119,120,121,122]⟩) (some 14) (some 16)) [4,6],od 18 (.bin .str .add 13 17) [3,7],od 2 (.mov 18) [8,0,1,2,3,4,5,6,7,8]] [] true) (.ret)))) 
def tf68:TFunc:=⟨1,19,[.tmp 2],false,tc68,[]⟩
def S68 (a0:Int):Option ByteArray :=
 ck (decide (¬ (26:Int)=0)) <|
 ck (decide (¬ (26:Int)=0)) <|
 ck (decide (¬ (26:Int)=0)) <|
 ck (decide (0<=Int.tmod (wi (Int.tdiv a0 (26:Int))) (26:Int)∧Int.tmod (wi (Int.tdiv a0 (26:Int))) (26:Int)<=wi ((Int.tmod (wi (Int.tdiv a0 (26:Int))) (26:Int))+(1:Int))∧wi ((Int.tmod (wi (Int.tdiv a0 (26:Int))) (26:Int))+(1:Int))<=((ByteArray.size (⟨#[97,98,99,100,101,102,103,104,105,106,107,108,109,110,111,112,113,114,115,116,117,118,119,120,121,122]⟩:ByteArray):Nat):Int))) <|
 ck (decide (0<=Int.tmod a0 (26:Int)∧Int.tmod a0 (26:Int)<=wi ((Int.tmod a0 (26:Int))+(1:Int))∧wi ((Int.tmod a0 (26:Int))+(1:Int))<=((ByteArray.size (⟨#[97,98,99,100,101,102,103,104,105,106,107,108,109,110,111,112,113,114,115,116,117,118,119,120,121,122]⟩:ByteArray):Nat):Int))) <|
 ck (decide (ByteArray.size (ByteArray.extract (⟨#[97,98,99,100,101,102,103,104,105,106,107,108,109,110,111,112,113,114,115,116,117,118,119,120,121,122]⟩:ByteArray) (Int.toNat (Int.tmod (wi (Int.tdiv a0 (26:Int))) (26:Int))) (Int.toNat (wi ((Int.tmod (wi (Int.tdiv a0 (26:Int))) (26:Int))+(1:Int)))))+ByteArray.size (ByteArray.extract (⟨#[97,98,99,100,101,102,103,104,105,106,107,108,109,110,111,112,113,114,115,116,117,118,119,120,121,122]⟩:ByteArray) (Int.toNat (Int.tmod a0 (26:Int))) (Int.toNat (wi ((Int.tmod a0 (26:Int))+(1:Int)))))<=9223372036854775807)) <|
 some ((ByteArray.extract (⟨#[97,98,99,100,101,102,103,104,105,106,107,108,109,110,111,112,113,114,115,116,117,118,119,120,121,122]⟩:ByteArray) (Int.toNat (Int.tmod (wi (Int.tdiv a0 (26:Int))) (26:Int))) (Int.toNat (wi ((Int.tmod (wi (Int.tdiv a0 (26:Int))) (26:Int))+(1:Int)))))++(ByteArray.extract (⟨#[97,98,99,100,101,102,103,104,105,106,107,108,109,110,111,112,113,114,115,116,117,118,119,120,121,122]⟩:ByteArray) (Int.toNat (Int.tmod a0 (26:Int))) (Int.toNat (wi ((Int.tmod a0 (26:Int))+(1:Int))))))
def P68:=S68
def k68:CSpec:=⟨68,[.int],.str,fun x=>P68 x,false,[]⟩
theorem r68 {S:Seat} (h:Ok1 S 68 tf68):RtF S [] (Rt S k68):=okr h rfl fun x=>by kernel_rfl
def tc50:TCode:=.seq (rg [oq 4 (.alloc [.string ⟨#[]⟩,.int .i64 0,.slice none 0 0])]) (.seq (.region [om 7 0,oq 8 (.build [.string ⟨#[]⟩,.int .i64 0,.int .i64 0,.string ⟨#[]⟩] [(0,1,(cs ⟨#[97,108,108]⟩)),(1,1,(ci (-1)))]),oq 9 (.bslice false 4 [.string ⟨#[]⟩,.int .i64 0,.int .i64 0,.string ⟨#[]⟩] 1 [(0,8)]),oq 10 (.build [.string ⟨#[]⟩,.int .i64 0,.slice none 0 0] [(0,1,7),(2,1,9)]),oq 5 (.alloc [.string ⟨#[]⟩,.int .i64 0,.slice none 0 0]),on (.store 3 5 10)] [.int,.int,.member] false) (.seq (.seq (rg [om 6 (ci 0)]) (.loop ⟨[.slot 6 .int,.var 5 [.sh .str,.sh .int,.row 9 .member]],[11,12,13,14,15,16,17,18,19,20,21,22,23],[21],[]⟩ 0 (.seq (.seq (rg [om 11 6,om 12 1,oq 13 (.bin .int .lss 11 12)]) (.cond 13 (.skip) (.exit 0))) (.seq (.block 1 (.region [oq 16 (.fa 2 5),od 17 (.load none 16) [0],om 18 6,od 19 (.call false [] 68 [18]) [2],od 20 (.build [.string ⟨#[]⟩,.int .i64 0,.int .i64 0,.string ⟨#[]⟩] [(0,1,19),(1,1,(ci 0)),(2,1,(ci 1))]) [3],od 21 (.bslice false 4 [.string ⟨#[]⟩,.int .i64 0,.int .i64 0,.string ⟨#[]⟩] 1 [(0,20)]) [4],od 22 (.app 4 17 21) [1,5,3],od 23 (.fa 2 5) [0,1,2,3,4,5,6],⟨none,.store 1 23 22,none,[7,6,6,0,1,2,3,4,5,6]⟩] [.int,.int,.int,.int,.int,.member,.member] true)) (rg [om 14 6,oq 15 (.bin .int .add 14 (ci 1)),om 6 15]))))) (.seq (rg [oq 24 (.load (some 3) 5),on (.store 3 4 24)]) (.ret)))) 
def tf50:TFunc:=⟨2,25,[.cell 4 (some 3)],false,tc50,[]⟩
def zgp (a1:Int) (x1:(Int×(ByteArray×Int×LM))):Option (LR (Int×(ByteArray×Int×LM)) Dim) :=
 br (decide (x1.1 < a1))
 (bno (F68 x1.1) fun y2 =>
 ck (decide (List.length x1.2.2.2+List.length ([Member.mk y2 (0:Int) (1:Int) (⟨#[]⟩:ByteArray)]:List Member)<=roomB)) <|
 nxO (some (wi (x1.1+(1:Int)),(x1.2.1,x1.2.2.1,x1.2.2.2++([Member.mk y2 (0:Int) (1:Int) (⟨#[]⟩:ByteArray)]:List Member)))))
 (dnO (some (x1.1,(x1.2.1,x1.2.2.1,x1.2.2.2))))
def S50 (a0:ByteArray) (a1:Int):Option Dim :=
 lp (zgp F68 a1) ((0:Int),(a0,(0:Int),([Member.mk (⟨#[97,108,108]⟩:ByteArray) (-1:Int) (0:Int) (⟨#[]⟩:ByteArray)]:List Member))) fun x3 =>
 some (Dim.mk x3.2.1 x3.2.2.1 x3.2.2.2)
def P50:=S50 P68
def k50:CSpec:=⟨50,[.str,.int],(.st .dim),fun x=>P50 x.1 x.2,false,[]⟩
theorem r50 {S:Seat} (h:Ok1 S 50 tf50):RtF S [k68] (Rt S k50):=okr h rfl fun x=>by kernel_rfl
def tc22:TCode:=.seq (rg [oq 2 (.alloc [.slice none 0 0])]) (.seq (.region [om 3 0,oq 4 (.call true [] 50 [(cs ⟨#[120]⟩),3]),om 5 0,oq 6 (.call true [] 50 [(cs ⟨#[121]⟩),5]),oq 7 (.bslice true 3 [.string ⟨#[]⟩,.int .i64 0,.slice none 0 0] 2 [(0,4),(1,6)]),oq 8 (.build [.slice none 0 0] [(0,1,7)]),on (.store 1 2 8)] [.int,.int,.int,.int,.dim] false) (.ret)) 
def tf22:TFunc:=⟨1,9,[.cell 2 (some 1)],false,tc22,[]⟩
def S22 (a0:Int):Option LD :=
 bno (F50 (⟨#[120]⟩:ByteArray) a0) fun y1 =>
 bno (F50 (⟨#[121]⟩:ByteArray) a0) fun y2 =>
 some ([y1,y2]:List Dim)
def P22:=S22 P50
def k22:CSpec:=⟨22,[.int],(.st .outl),fun x=>P22 x,false,[]⟩
theorem r22 {S:Seat} (h:Ok1 S 22 tf22):RtF S [k50] (Rt S k22):=okr h rfl fun x=>by kernel_rfl
end
end
end Ab
