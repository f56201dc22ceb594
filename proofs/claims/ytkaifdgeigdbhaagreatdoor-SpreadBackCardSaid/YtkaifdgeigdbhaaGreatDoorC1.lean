import Derived.Test.YtkaifdgeigdbhaaGreatDoorF1
set_option linter.all false
noncomputable section
namespace Ab
open Go
section
set_option maxRecDepth 100000
section
variable (F105:Err->(Option Int))
def S92 (a0:Err) (a1:Int):Option Bool :=
 bno (F105 a0) fun y1 =>
 some (decide (y1=a1))
def P92:=S92 P105
end
end
section
set_option maxRecDepth 100000
section
variable (F28:LI->LI->(Option Bool))
end
end
section
set_option maxRecDepth 100000
section
variable (F50:ByteArray->Int->(Option Dim)) (F68:Int->(Option ByteArray))
def tc68:TCode:=.seq (rg [om 2 (cs ⟨#[]⟩)]) (.seq (rg [om 5 0,oq 6 (.bin .int .quo 5 (ci 26)),oq 7 (.bin .int .rem 6 (ci 26)),om 3 7]) (.seq (rg [om 8 0,oq 9 (.bin .int .rem 8 (ci 26)),om 4 9]) (.seq (.region [om 10 3,om 11 3,od 12 (.bin .int .add 11 (ci 1)) [1],od 13 (.slc 0 (cs ⟨#[97,98,99,100,101,102,103,104,105,106,107,108,109,110,111,112,113,114,115,116,117,118,119,120,121,122]⟩) (some 10) (some 12)) [0,2],om 14 4,om 15 4,od 16 (.bin .int .add 15 (ci 1)) [5],od 17 (.slc 0 (cs ⟨#[97,98,99,100,101,102,103,104,105,106,107,108,109,110,111,112,113,114,115,116,117,118,119,120,121,122]⟩) (some 14) (some 16)) [4,6],od 18 (.bin .str .add 13 17) [3,7],od 2 (.mov 18) [8,0,1,2,3,4,5,6,7,8]] [] true) (.ret)))) 
def tf68:TFunc:=⟨1,19,[.tmp 2],false,tc68,[]⟩
def S68 (a0:Int):Option ByteArray :=
 ck (decide (¬ (26:Int)=0)) <|
 ck (decide (¬ (26:Int)=0)) <|
 ck (decide (¬ (26:Int)=0)) <|
 ck (decide (0<=Int.tmod (wi (Int.tdiv a0 (26:Int))) (26:Int)∧Int.tmod (wi (Int.tdiv a0 (26:Int))) (26:Int)<=wi ((Int.tmod (wi (Int.tdiv a0 (26:Int))) (26:Int))+(1:Int))∧wi ((Int.tmod (wi (Int.tdiv a0 (26:Int))) (26:Int))+(1:Int))<=((ByteArray.size (⟨#[97,98,99,100,101,102,103,104,105,106,107,108,109,110,111,112,113,114,115,116,117,118,119,120,121,122]⟩:ByteArray):Nat):Int))) <|
 ck (decide (0<=Int.tmod a0 (26:Int)∧Int.tmod a0 (26:Int)<=wi ((Int.tmod a0 (26:Int))+(1:Int))∧wi ((Int.tmod a0 (26:Int))+(1:Int))<=((ByteArray.size (⟨#[97,98,99,100,101,102,103,104,105,106,107,108,109,110,111,112,113,114,115,116,117,118,119,120,121,122]⟩:ByteArray):Nat):Int))) <|
 ck (decide (ByteArray.size (ByteArray.extract (⟨#[97,98,99,100,101,102,103,104,105,106,107,108,109,110,111,112,113,114,115,116,117,118,119,120,121,122]⟩:ByteArray) (Int.toNat (Int.tmod (wi (Int.tdiv a0 (26:Int))) (26:Int))) (Int.toNat (wi ((Int.tmod (wi (Int.tdiv a0 (26:Int))) (26:Int))+(1:Int)))))+ByteArray.size (ByteArray.extract (⟨#[97,98,99,100,101,102,103,104,105,106,107,108,109,110,111,112,113,114,115,116,117,118,119,120,121,122]⟩:ByteArray) (Int.toNat (Int.tmod a0 (26:Int))) (Int.toNat (wi ((Int.tmod a0 (26:Int))+(1:Int)))))<=9223372036854775807)) <|
 some ((ByteArray.extract (⟨#[97,98,99,100,101,102,103,104,105,106,107,108,109,110,111,112,113,114,115,116,117,118,119,120,121,122]⟩:ByteArray) (Int.toNat (Int.tmod (wi (Int.tdiv a0 (26:Int))) (26:Int))) (Int.toNat (wi ((Int.tmod (wi (Int.tdiv a0 (26:Int))) (26:Int))+(1:Int)))))++(ByteArray.extract (⟨#[97,98,99,100,101,102,103,104,105,106,107,108,109,110,111,112,113,114,115,116,117,118,119,120,121,122]⟩:ByteArray) (Int.toNat (Int.tmod a0 (26:Int))) (Int.toNat (wi ((Int.tmod a0 (26:Int))+(1:Int))))))
def P68:=S68
def k68:CSpec:=⟨68,[.int],.str,fun x=>P68 x,false,[]⟩
def r68 {S:Seat} (h:Ok1 S 68 tf68):RtF S [] (Rt S k68):=okr h rfl fun x=>by kernel_rfl
def tc50:TCode:=.seq (rg [oq 4 (.alloc [.string ⟨#[]⟩,.int .i64 0,.slice none 0 0])]) (.seq (.region [om 7 0,oq 8 (.build [.string ⟨#[]⟩,.int .i64 0,.int .i64 0,.string ⟨#[]⟩] [(0,1,(cs ⟨#[97,108,108]⟩)),(1,1,(ci (-1)))]),oq 9 (.bslice false 4 [.string ⟨#[]⟩,.int .i64 0,.int .i64 0,.string ⟨#[]⟩] 1 [(0,8)]),oq 10 (.build [.string ⟨#[]⟩,.int .i64 0,.slice none 0 0] [(0,1,7),(2,1,9)]),oq 5 (.alloc [.string ⟨#[]⟩,.int .i64 0,.slice none 0 0]),on (.store 3 5 10)] [.int,.int,.member] false) (.seq (.seq (rg [om 6 (ci 0)]) (.loop ⟨[.slot 6 .int,.var 5 [.sh .str,.sh .int,.row 9 .member]],[11,12,13,14,15,16,17,18,19,20,21,22,23],[21],[]⟩ 0 (.seq (.seq (rg [om 11 6,om 12 1,oq 13 (.bin .int .lss 11 12)]) (.cond 13 (.skip) (.exit 0))) (.seq (.block 1 (.region [oq 16 (.fa 2 5),od 17 (.load none 16) [0],om 18 6,od 19 (.call false [] 68 [18]) [2],od 20 (.build [.string ⟨#[]⟩,.int .i64 0,.int .i64 0,.string ⟨#[]⟩] [(0,1,19),(1,1,(ci 0)),(2,1,(ci 1))]) [3],od 21 (.bslice false 4 [.string ⟨#[]⟩,.int .i64 0,.int .i64 0,.string ⟨#[]⟩] 1 [(0,20)]) [4],od 22 (.app 4 17 21) [1,5,3],od 23 (.fa 2 5) [0,1,2,3,4,5,6],⟨none,.store 1 23 22,none,[7,6,6,0,1,2,3,4,5,6]⟩] [.int,.int,.int,.int,.int,.member,.member] true)) (rg [om 14 6,oq 15 (.bin .int .add 14 (ci 1)),om 6 15]))))) (.seq (rg [oq 24 (.load (some 3) 5),on (.store 3 4 24)]) (.ret)))) 
def tf50:TFunc:=⟨2,25,[.cell 4 (some 3)],false,tc50,[]⟩
def gK (a1:Int) (x1:(Int×(ByteArray×Int×LM))):Option (LR (Int×(ByteArray×Int×LM)) Dim) :=
 br (decide (x1.1 < a1))
 (bno (F68 x1.1) fun y2 =>
 ck (decide (List.length x1.2.2.2+List.length ([Member.mk y2 (0:Int) (1:Int) (⟨#[]⟩:ByteArray)]:List Member)<=zjl)) <|
 nxO (some (wi (x1.1+(1:Int)),(x1.2.1,x1.2.2.1,x1.2.2.2++([Member.mk y2 (0:Int) (1:Int) (⟨#[]⟩:ByteArray)]:List Member)))))
 (dnO (some (x1.1,(x1.2.1,x1.2.2.1,x1.2.2.2))))
def S50 (a0:ByteArray) (a1:Int):Option Dim :=
 lp (gK F68 a1) ((0:Int),(a0,(0:Int),([Member.mk (⟨#[97,108,108]⟩:ByteArray) (-1:Int) (0:Int) (⟨#[]⟩:ByteArray)]:List Member))) fun x3 =>
 some (Dim.mk x3.2.1 x3.2.2.1 x3.2.2.2)
def P50:=S50 P68
def k50:CSpec:=⟨50,[.str,.int],(.st .dim),fun x=>P50 x.1 x.2,false,[]⟩
def r50 {S:Seat} (h:Ok1 S 50 tf50):RtF S [k68] (Rt S k50):=okr h rfl fun x=>by kernel_rfl
end
end
end Ab
