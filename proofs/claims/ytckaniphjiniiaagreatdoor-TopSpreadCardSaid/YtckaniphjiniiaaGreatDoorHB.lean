import Derived.Test.YtckaniphjiniiaaGreatDoorB2
set_option linter.all false
noncomputable section
namespace Ab
open Go
section
set_option maxRecDepth 100000
section
variable (F30:Int->(Option Bool)) (F31_32:Cell->Cell->(Option (Cell×Err))) (F31_34:Cell->Cell->(Option (Cell×Err))) (F31_35:Cell->Cell->(Option (Cell×Err))) (F31_36:Cell->Cell->(Option (Cell×Err))) (F32:Cell->Cell->(Option Cell)) (F33:Cell->Cell->Int->(Option Cell)) (F34:Cell->Cell->(Option Cell)) (F35:Cell->Cell->(Option Cell)) (F36:Cell->Cell->(Option Cell)) (F52:Cell->(Option Err)) (F62:Int->(Option Int)) (F8:Int->(Option Cell))
def tc30:TCode:=.seq (rg [om 2 (cb false)]) (.seq (.regionJ ⟨[.slot 2 .bool],[3,4,5,6,7,8],[],[]⟩ [om 3 0,oq 4 (Bi .geq 3 (ci (-1000000000000))),om 5 4,og 6 (.mov 0) 5 true [],og 7 (Bi .leq 6 (ci 1000000000000)) 5 true [],oq 8 (.pick 5 7 (cb false)),om 2 8] [] false) .ret) 
def tf30:TFunc:=⟨1,9,[.tmp 2],false,tc30,[]⟩
def S30 (a0:Int):Option Bool :=
 jn (σ:=Bool) (α:=Bool) (br (decide ((-1000000000000:Int)<=a0))
 (zt (some (decide (a0<=(1000000000000:Int)))))
 (zt (some false))) fun x1 =>
 some x1
def P30:=S30
def k30:CSpec:=⟨30,[.int],.bool,fun x=>P30 x,false,[]⟩
def r30 {S:Seat} (h:Ok1 S 30 tf30):RtF S [] (Rt S k30):=okr h
def tc8:TCode:=.seq (rg [oq 2 (.alloc [.int .i64 0,.int .i64 0])]) (.seq (.seq (rg [om 3 0,oq 4 (Cl 30 [3]),oq 5 (.un .not 4)]) (.cond 5 (.seq (rg [oq 6 (.build [.int .i64 0,.int .i64 0] [(0,1,(ci 2))]),on (.store 2 2 6)]) .ret) .skip)) (.seq (rg [om 7 0,oq 8 (.build [.int .i64 0,.int .i64 0] [(0,1,(ci 1)),(1,1,7)]),on (.store 2 2 8)]) .ret)) 
def tf8:TFunc:=⟨1,9,[.cell 2 (some 2)],false,tc8,[]⟩
def S8 (a0:Int):Option Cell :=
 bno (F30 a0) fun y1 =>
 br (!y1)
 (some (Cell.mk (2:Int) (0:Int)))
 (some (Cell.mk (1:Int) a0))
def P8:=S8 P30
def k8:CSpec:=⟨8,[.int],(.st .cell),fun x=>P8 x,false,[]⟩
def r8 {S:Seat} (h:Ok1 S 8 tf8):RtF S [k30] (Rt S k8):=okr h
def tc33:TCode:=.seq (rg [oq 3 (.box 0),oq 4 (.box 1),oq 6 (.alloc [.int .i64 0,.int .i64 0])]) (.seq (.block 0 (.seq (.regionJ ⟨[.slot 7 .bool],[8,9,10,11,12,13,14,15],[],[]⟩ [oq 8 (.fa 0 3),oq 9 (Ld 8),oq 10 (Bi .eql 9 (ci 2)),om 11 10,og 12 (.fa 0 4) 11 false [],og 13 (Ld 12) 11 false [],og 14 (Bi .eql 13 (ci 2)) 11 false [],oq 15 (.pick 11 (cb true) 14),om 7 15] [] false) (.cond 7 (.seq (rg [oq 16 (.build [.int .i64 0,.int .i64 0] [(0,1,(ci 2))]),on (.store 2 6 16)]) .ret) (.seq (.regionJ ⟨[.slot 17 .bool],[18,19,20,21,22,23,24,25],[],[]⟩ [oq 18 (.fa 0 3),oq 19 (Ld 18),oq 20 (Bi .eql 19 (ci 0)),om 21 20,og 22 (.fa 0 4) 21 true [],og 23 (Ld 22) 21 true [],og 24 (Bi .eql 23 (ci 0)) 21 true [],oq 25 (.pick 21 24 (cb false)),om 17 25] [] false) (.cond 17 (.seq (rg [oq 26 (.build [.int .i64 0,.int .i64 0] []),on (.store 2 6 26)]) .ret) .skip))))) (.seq (rg [oq 27 (.fa 1 3),oq 28 (Ld 27),om 29 2,oq 30 (.fa 1 4),oq 31 (Ld 30),oq 32 (Bi .mul 29 31),oq 33 (Bi .add 28 32),oq 34 (Cl 8 [33]),on (.store 2 6 34)]) .ret)) 
def tf33:TFunc:=⟨3,35,[.cell 6 (some 2)],false,tc33,[]⟩
def S33 (a0:Cell) (a1:Cell) (a2:Int):Option Cell :=
 jn (σ:=Bool) (α:=Cell) (br (decide ((Cell.k a0)=(2:Int)))
 (zt (some true))
 (zt (some (decide ((Cell.k a1)=(2:Int)))))) fun x1 =>
 br x1
 (some (Cell.mk (2:Int) (0:Int)))
 (jn (σ:=Bool) (α:=Cell) (br (decide ((Cell.k a0)=(0:Int)))
 (zt (some (decide ((Cell.k a1)=(0:Int)))))
 (zt (some false))) fun x2 =>
 br x2
 (some (Cell.mk (0:Int) (0:Int)))
 (bno (F8 (wi ((Cell.n a0)+(wi (a2*(Cell.n a1)))))) fun y3 =>
 some y3))
def P33:=S33 P8
def k33:CSpec:=⟨33,[(.st .cell),(.st .cell),.int],(.st .cell),fun x=>P33 x.1 x.2.1 x.2.2,false,[]⟩
def r33 {S:Seat} (h:Ok1 S 33 tf33):RtF S [k8] (Rt S k33):=okr h
def S32 (a0:Cell) (a1:Cell):Option Cell :=
 bno (F33 a0 a1 (1:Int)) fun y1 =>
 some y1
def P32:=S32 P33
def S52 (a0:Cell):Option Err :=
 jn (σ:=Bool) (α:=Err) (br (decide ((Cell.k a0)<(0:Int)))
 (zt (some true))
 (br (decide ((2:Int)<(Cell.k a0)))
 (zt (some true))
 (bno (F30 (Cell.n a0)) fun y1 =>
 br (!y1)
 (zt (some true))
 (br (decide (¬(Cell.k a0)=(1:Int)))
 (zt (some (decide (¬(Cell.n a0)=(0:Int)))))
 (zt (some false)))))) fun x2 =>
 br x2
 (some (Err.no (1:Int)))
 (some Err.nil)
def P52:=S52 P30
def S31_32 (a0:Cell) (a1:Cell):Option (Cell×Err) :=
 bno (F52 a0) fun y1 =>
 br (!(Err.isNil y1))
 (some (Cell.mk (0:Int) (0:Int),y1))
 (bno (F52 a1) fun y2 =>
 br (!(Err.isNil y2))
 (some (Cell.mk (0:Int) (0:Int),y2))
 (bno (F32 a0 a1) fun y3 =>
 some (y3,Err.nil)))
def P31_32:=S31_32 P32 P52
def S9 (a0:Cell) (a1:Cell):Option (Cell×Err) :=
 bno (F31_32 a0 a1) fun y1 =>
 some (y1.1,y1.2)
def P9:=S9 P31_32
def tc62:TCode:=.seq (rg [om 2 (ci 0)]) (.seq (rg [om 3 0,om 4 0,oq 5 (.un .neg 4),oq 6 (.max2 3 5),om 2 6]) .ret) 
def tf62:TFunc:=⟨1,7,[.tmp 2],false,tc62,[]⟩
def S62 (a0:Int):Option Int :=
 some (maxT a0 (wi (0-a0)))
def P62:=S62
def k62:CSpec:=⟨62,[.int],.int,fun x=>P62 x,false,[]⟩
def r62 {S:Seat} (h:Ok1 S 62 tf62):RtF S [] (Rt S k62):=okr h
def tc34:TCode:=.seq (rg [oq 2 (.box 0),oq 3 (.box 1),oq 4 (.alloc [.int .i64 0,.int .i64 0])]) (.seq (.block 0 (.seq (.regionJ ⟨[.slot 5 .bool],[6,7,8,9,10,11,12,13],[],[]⟩ [oq 6 (.fa 0 2),oq 7 (Ld 6),oq 8 (Bi .eql 7 (ci 2)),om 9 8,og 10 (.fa 0 3) 9 false [],og 11 (Ld 10) 9 false [],og 12 (Bi .eql 11 (ci 2)) 9 false [],oq 13 (.pick 9 (cb true) 12),om 5 13] [] false) (.cond 5 (.seq (rg [oq 14 (.build [.int .i64 0,.int .i64 0] [(0,1,(ci 2))]),on (.store 2 4 14)]) .ret) (.seq (.regionJ ⟨[.slot 15 .bool],[16,17,18,19,20,21,22,23],[],[]⟩ [oq 16 (.fa 0 2),oq 17 (Ld 16),oq 18 (Bi .eql 17 (ci 0)),om 19 18,og 20 (.fa 0 3) 19 false [],og 21 (Ld 20) 19 false [],og 22 (Bi .eql 21 (ci 0)) 19 false [],oq 23 (.pick 19 (cb true) 22),om 15 23] [] false) (.cond 15 (.seq (rg [oq 24 (.build [.int .i64 0,.int .i64 0] []),on (.store 2 4 24)]) .ret) (.seq (.regionJ ⟨[.slot 25 .bool],[26,27,28,29,30,31,32,33,34,35,36,37,38],[],[]⟩ [oq 26 (.fa 1 2),od 27 (Ld 26) [0],od 28 (Bi .neq 27 (ci 0)) [1],od 29 (.mov 28) [2],og 30 (.fa 1 3) 29 true [3],og 31 (Ld 30) 29 true [4,3],og 32 (Cl 62 [31]) 29 true [5,3,3],og 33 (.fa 1 2) 29 true [3],og 34 (Ld 33) 29 true [7,3],og 35 (Cl 62 [34]) 29 true [8,6,3],og 36 (Bi .quo (ci 1000000000000) 35) 29 true [9,3],og 37 (Bi .gtr 32 36) 29 true [6,10,3],od 38 (.pick 29 37 (cb false)) [3,11],od 25 (.mov 38) [12,9]] [] true) (.cond 25 (.seq (rg [oq 39 (.build [.int .i64 0,.int .i64 0] [(0,1,(ci 2))]),on (.store 2 4 39)]) .ret) .skip))))))) (.seq (rg [oq 40 (.fa 1 2),oq 41 (Ld 40),oq 42 (.fa 1 3),oq 43 (Ld 42),oq 44 (Bi .mul 41 43),oq 45 (Cl 8 [44]),on (.store 2 4 45)]) .ret)) 
def tf34:TFunc:=⟨2,46,[.cell 4 (some 2)],false,tc34,[]⟩
def S34 (a0:Cell) (a1:Cell):Option Cell :=
 jn (σ:=Bool) (α:=Cell) (br (decide ((Cell.k a0)=(2:Int)))
 (zt (some true))
 (zt (some (decide ((Cell.k a1)=(2:Int)))))) fun x1 =>
 br x1
 (some (Cell.mk (2:Int) (0:Int)))
 (jn (σ:=Bool) (α:=Cell) (br (decide ((Cell.k a0)=(0:Int)))
 (zt (some true))
 (zt (some (decide ((Cell.k a1)=(0:Int)))))) fun x2 =>
 br x2
 (some (Cell.mk (0:Int) (0:Int)))
 (jn (σ:=Bool) (α:=Cell) (br (decide (¬(Cell.n a0)=(0:Int)))
 (bno (F62 (Cell.n a1)) fun y3 =>
 bno (F62 (Cell.n a0)) fun y4 =>
 ck (decide (¬y4=0)) <|
 zt (some (decide ((wi (Int.tdiv (1000000000000:Int) y4))<y3))))
 (zt (some false))) fun x5 =>
 br x5
 (some (Cell.mk (2:Int) (0:Int)))
 (bno (F8 (wi ((Cell.n a0)*(Cell.n a1)))) fun y6 =>
 some y6)))
def P34:=S34 P62 P8
def k34:CSpec:=⟨34,[(.st .cell),(.st .cell)],(.st .cell),fun x=>P34 x.1 x.2,false,[]⟩
def r34 {S:Seat} (h:Ok1 S 34 tf34):RtF S [k62,k8] (Rt S k34):=okr h
def S31_34 (a0:Cell) (a1:Cell):Option (Cell×Err) :=
 bno (F52 a0) fun y1 =>
 br (!(Err.isNil y1))
 (some (Cell.mk (0:Int) (0:Int),y1))
 (bno (F52 a1) fun y2 =>
 br (!(Err.isNil y2))
 (some (Cell.mk (0:Int) (0:Int),y2))
 (bno (F34 a0 a1) fun y3 =>
 some (y3,Err.nil)))
def P31_34:=S31_34 P34 P52
def S10 (a0:Cell) (a1:Cell):Option (Cell×Err) :=
 bno (F31_34 a0 a1) fun y1 =>
 some (y1.1,y1.2)
def P10:=S10 P31_34
def k10:CSpec:=⟨10,[(.st .cell),(.st .cell)],(.tp [(.st .cell),.err]),fun x=>P10 x.1 x.2,false,[]⟩
def tc35:TCode:=.seq (rg [oq 2 (.box 0),oq 3 (.box 1),oq 4 (.alloc [.int .i64 0,.int .i64 0])]) (.seq (.block 0 (.seq (.regionJ ⟨[.slot 5 .bool],[6,7,8,9,10,11,12,13],[],[]⟩ [oq 6 (.fa 0 2),oq 7 (Ld 6),oq 8 (Bi .eql 7 (ci 2)),om 9 8,og 10 (.fa 0 3) 9 false [],og 11 (Ld 10) 9 false [],og 12 (Bi .eql 11 (ci 2)) 9 false [],oq 13 (.pick 9 (cb true) 12),om 5 13] [] false) (.cond 5 (.seq (rg [oq 14 (.build [.int .i64 0,.int .i64 0] [(0,1,(ci 2))]),on (.store 2 4 14)]) .ret) (.seq (.regionJ ⟨[.slot 15 .bool],[16,17,18,19,20,21,22,23],[],[]⟩ [oq 16 (.fa 0 2),oq 17 (Ld 16),oq 18 (Bi .eql 17 (ci 0)),om 19 18,og 20 (.fa 0 3) 19 false [],og 21 (Ld 20) 19 false [],og 22 (Bi .eql 21 (ci 0)) 19 false [],oq 23 (.pick 19 (cb true) 22),om 15 23] [] false) (.cond 15 (.seq (rg [oq 24 (.build [.int .i64 0,.int .i64 0] []),on (.store 2 4 24)]) .ret) (.seq (rg [oq 26 (.fa 1 3),oq 27 (Ld 26),oq 28 (Bi .eql 27 (ci 0)),om 25 28]) (.cond 25 (.seq (rg [oq 29 (.build [.int .i64 0,.int .i64 0] [(0,1,(ci 2))]),on (.store 2 4 29)]) .ret) .skip))))))) (.seq (rg [oq 30 (.fa 1 2),oq 31 (Ld 30),oq 32 (.fa 1 3),oq 33 (Ld 32),oq 34 (Bi .quo 31 33),oq 35 (Cl 8 [34]),on (.store 2 4 35)]) .ret)) 
def tf35:TFunc:=⟨2,36,[.cell 4 (some 2)],false,tc35,[]⟩
def S35 (a0:Cell) (a1:Cell):Option Cell :=
 jn (σ:=Bool) (α:=Cell) (br (decide ((Cell.k a0)=(2:Int)))
 (zt (some true))
 (zt (some (decide ((Cell.k a1)=(2:Int)))))) fun x1 =>
 br x1
 (some (Cell.mk (2:Int) (0:Int)))
 (jn (σ:=Bool) (α:=Cell) (br (decide ((Cell.k a0)=(0:Int)))
 (zt (some true))
 (zt (some (decide ((Cell.k a1)=(0:Int)))))) fun x2 =>
 br x2
 (some (Cell.mk (0:Int) (0:Int)))
 (br (decide ((Cell.n a1)=(0:Int)))
 (some (Cell.mk (2:Int) (0:Int)))
 (ck (decide (¬(Cell.n a1)=0)) <|
 bno (F8 (wi (Int.tdiv (Cell.n a0) (Cell.n a1)))) fun y3 =>
 some y3)))
def P35:=S35 P8
def k35:CSpec:=⟨35,[(.st .cell),(.st .cell)],(.st .cell),fun x=>P35 x.1 x.2,false,[]⟩
def r35 {S:Seat} (h:Ok1 S 35 tf35):RtF S [k8] (Rt S k35):=okr h
def S31_35 (a0:Cell) (a1:Cell):Option (Cell×Err) :=
 bno (F52 a0) fun y1 =>
 br (!(Err.isNil y1))
 (some (Cell.mk (0:Int) (0:Int),y1))
 (bno (F52 a1) fun y2 =>
 br (!(Err.isNil y2))
 (some (Cell.mk (0:Int) (0:Int),y2))
 (bno (F35 a0 a1) fun y3 =>
 some (y3,Err.nil)))
def P31_35:=S31_35 P35 P52
def S11 (a0:Cell) (a1:Cell):Option (Cell×Err) :=
 bno (F31_35 a0 a1) fun y1 =>
 some (y1.1,y1.2)
def P11:=S11 P31_35
def S36 (a0:Cell) (a1:Cell):Option Cell :=
 bno (F33 a0 a1 (-1:Int)) fun y1 =>
 some y1
def P36:=S36 P33
def S31_36 (a0:Cell) (a1:Cell):Option (Cell×Err) :=
 bno (F52 a0) fun y1 =>
 br (!(Err.isNil y1))
 (some (Cell.mk (0:Int) (0:Int),y1))
 (bno (F52 a1) fun y2 =>
 br (!(Err.isNil y2))
 (some (Cell.mk (0:Int) (0:Int),y2))
 (bno (F36 a0 a1) fun y3 =>
 some (y3,Err.nil)))
def P31_36:=S31_36 P36 P52
def S12 (a0:Cell) (a1:Cell):Option (Cell×Err) :=
 bno (F31_36 a0 a1) fun y1 =>
 some (y1.1,y1.2)
def P12:=S12 P31_36
end
end
section
open Go Go.RowKit
def cloneC (frz:Bool) (z:Nat) (zero:List Value):TCode :=
 .seq (.region [⟨some 2,.mov (.c (.slice none 0 0)),none,[]⟩] [] false)
  (.seq (.seq (.region [⟨some 3,.mov (.t 0),none,[]⟩,⟨some 4,.eqn true false (.t 3),none,[]⟩] [] false)
    (.cond (.t 4) (.seq (.region [⟨some 2,.mov (.c (.slice none 0 0)),none,[]⟩] [] false) .ret) .skip))
   (.seq (.region [⟨some 5,.bslice frz z zero 0 [],none,[]⟩,⟨some 6,.mov (.t 0),none,[]⟩,⟨some 7,.app z (.t 5) (.t 6),none,[]⟩,⟨some 2,.mov (.t 7),none,[]⟩] [] false) .ret))
def zbi (frz:Bool) (z:Nat) (zero:List Value):TFunc:={ np:=1,nt:=8,res:=[.tmp 2],own:=true,body:=cloneC frz z zero }
section
variable {S:Seat} {id:Nat} {frz:Bool} {z:Nat} {zero:List Value}
def clone_run {M:Rets} {x:AV} {es:List (List AV)} (hx:∀(d:Nat) (st:ASt),st.ev (.t 3)=x->aop (.eqn true false (.t 3)) d st=some (.v (.bool false),st)) (he:∀hp,wA hp z x=some es)
  (aq:es.length<=zcq z) (st:ASt) (h0:st.fr 0=x) (h1:st.hp=fun _=>none):∃aa,Ex M (cloneC frz z zero).er st .ret aa∧qE true [] [.tmp 2] aa=some (.own z es,[])∧qE false [] [.tmp 2] aa=some (.sl z es,[]):=by
 let st1:=st.put 2 (.v (.slice none 0 0))
 let ai:=st1.put 3 x
 let kO:=ai.put 4 (.v (.bool false))
 let kN:=(kO.setH 5 (some (.arr z []))).put 5 (.lsl 5 z 0 0)
 let kM:=kN.put 6 x
 let st6:=((kM.scrub 5).setH 5 (some (.arr z es))).put 7 (.lsl 5 z 0 es.length)
 let lK:=st6.put 2 (.lsl 5 z 0 es.length)
 have e0:st1.fr 0=x:=h0;have e3:kN.fr 0=x:=h0;have a1:aop (.mov (.t 0)) 3 st1=some (x,st1):=by show some (st1.fr 0,st1)=_;rw[e0]
 have a2:aop (.eqn true false (.t 3)) 4 ai=some (.v (.bool false),ai):=hx 4 ai rfl;have a3:aop (.bslice frz z zero 0 []) 5 kO=some (.lsl 5 z 0 0,kO.setH 5 (some (.arr z []))):=by
  have kW:kO.hp 5=none:=by show st.hp 5=none;rw[h1]
  have hr:qX kO []=[]:=rfl;simp only[aop,kW,zd,hr,or_true,if_true,ASt.freezeL,DA,Dv]
 have a4:aop (.mov (.t 0)) 6 kN=some (x,kN):=by show some (kN.fr 0,kN)=_;rw[e3]
 have a5:aop (.app z (.t 5) (.t 6)) 7 kM=some (.lsl 5 z 0 es.length,(kM.scrub 5).setH 5 (some (.arr z es))):=(by have e6:kM.ev (.t 6)=x:=rfl;have e5:kM.ev (.t 5)=.lsl 5 z 0 0:=rfl;have kW:kM.hp 5=some (.arr z []):=rfl;simp only[aop,e6,he,e5,kW,BI,AY,AJ];rw[if_pos ⟨rfl,trivial,trivial,trivial,aq⟩])
 refine⟨lK,.seqN (.region (.cons (.inl ⟨rfl,_,st,rfl,rfl⟩) (.nil _))) (.seqN (b:=ACode.seq _ _) (st1:=kO) (.seqN (.region (.cons (.inl ⟨rfl,_,_,a1,rfl⟩) (.cons (.inl ⟨rfl,_,_,a2,rfl⟩) (.nil _)))) (.cond (t:=false) rfl (.skip _)))
  (.seqN (.region (.cons (.inl ⟨rfl,_,_,a3,rfl⟩) (.cons (.inl ⟨rfl,_,_,a4,rfl⟩) (.cons (.inl ⟨rfl,_,_,a5,rfl⟩) (.cons (.inl ⟨rfl,_,_,rfl,rfl⟩) (.nil _)))))) (.ret _))), ?_⟩
 have e2:lK.fr 2=.lsl 5 z 0 es.length:=rfl;have kW:lK.hp 5=some (.arr z es):=rfl;have x1:wj lK (.lsl 5 z 0 es.length)=some (.own z es):=by simp only[wj,kW];rw[if_pos ⟨trivial,trivial,rfl⟩]
 refine⟨?_, ?_⟩
 ·simp only[qE,zd,yA,e2,if_true,x1,qz];rw[if_pos (by exact⟨rfl,trivial⟩)]
 ·have x2:qt lK.hp (.lsl 5 z 0 es.length)=some (.sl z es):=by simp[qt,qo,kW]
  simp only[qE,zd,yA,e2,x2,qz];rfl
def zgf (h:Ok1 S id (zbi frz z zero)) {x:AV} {es:List (List AV)} (hx:∀(d:Nat) (st:ASt),st.ev (.t 3)=x->aop (.eqn true false (.t 3)) d st=some (.v (.bool false),st)) (he:∀hp,wA hp z x=some es) (ho:zG x=false)
  (aq:es.length<=zcq z):(zb S).ret id [x] (.own z es) []:=by
 obtain⟨aa,k1,k2,_⟩:=clone_run (M:=zb S) (frz:=frz) (zero:=zero) hx he aq (enter [] [x]) (by
  clear hx he;cases x with
  | own=>simp[zG] at ho
  | _=>rfl) (wm [] 0 [x] (by simpa using ho))
 exact h id (zbi frz z zero).er [x] (.own z es) [] (if_pos rfl) ⟨rfl,by simp[qT,ho,zA,TFunc.er,zbi],.ret,aa,k1,.inr rfl,k2⟩
def clone_nil (h:Ok1 S id (zbi frz z zero)):(zb S).ret id [aN] aN []:=by refine h id (zbi frz z zero).er [aN] aN [] (if_pos rfl) ⟨rfl,rfl,.ret,_,.seqN (.region (.cons (.inl ⟨rfl,_,_,rfl,rfl⟩) (.nil _))) (.seqE (.seqN (.region (.cons (.inl ⟨rfl,_,_,rfl,rfl⟩) (.cons (.inl ⟨rfl,_,_,rfl,rfl⟩) (.nil _)))) (.cond (t:=true) rfl (.seqN (.region (.cons (.inl ⟨rfl,_,_,rfl,rfl⟩) (.nil _))) (.ret _)))) (by intro e;cases e)),.inr rfl,rfl⟩
def clone_ret (h:Ok1 S id (zbi frz z zero)) {es:List (List AV)} (aq:es.length<=zcq z):(zb S).ret id [.sl z es] (.own z es) []:=by
 cases es with
 | cons e es =>refine zgf h (fun d st hs => ?_) (fun hp=>by simp[wA]) rfl aq;simp only[aop,hs,if_true]
 | nil =>
  intro g hg;refine yB (fun A w vs hl hA hJ ha => ?_) (by simp[zG]);have hv:=ha 0 _ rfl;have c1:(zb S).ret id [aN] (.own z []) []:=zjR rfl rfl (.inr (.inr ⟨rfl,z,rfl⟩)) (clone_nil h);have c2:∀a cap,(zb S).ret id [.v (.slice (some a) 0 cap)] (.own z []) []:=fun a cap =>
   zgf h (fun d st hs=>by simp only[aop,hs,if_true]) (fun hp=>rfl) rfl (by exact BM _)
  have use:∀x,(zb S).ret id [x] (.own z []) []->zG x=false->VR0 S A w x (vs.getD 0 undef)->Calls S.P g vs w fun e w'=>∃v,e=.returned v∧KeepO S.jg w w'∧S.jn w'∧zdm S A w w' (.own z []) v:=fun x hr ho hx =>
   (hr g hg).old (by simpa using ho) A w vs hl hA hJ fun i y hy=>by
    cases i with
    | zero=>simp at hy;subst hy;exact hx
    | succ i=>simp at hy
  have hs:=VR.sl_inv (σ:=fun _=>none) (.of0 hv);rcases hs with⟨_,hr⟩|⟨b,o',cap,u,hr,_⟩|⟨_,a,cap,hr⟩
  ·exact use aN c1 rfl (by rw[hr];exact .v _)
  ·exact use _ (c2 _ cap) rfl (by rw[hr];exact .v _)
  ·exact use _ (c2 a cap) rfl (by rw[hr];exact .v _)
def ret_soft {f:Nat} {as:List AV} {es:List (List AV)} (ha:∀x∈as,zG x=false) (h:(zb S).ret f as (.own z es) []):(zb S).ret f as (.sl z es) []:=by
 intro g hg;refine yB (fun A w vs hl hA hJ hargs=>((h g hg).old ha A w vs hl hA hJ hargs).mono ?_) ha;rintro e w' ⟨v,he,hk,hj,β,hβ,ay,hv⟩;refine⟨v,he,hk,hj,fun _=>none,by simp,by simp, ?_⟩;have hv:qx S (qy A β w w') w' (β 0) z es v:=hv;show none=none∧VR0 S (qy A (fun _=>none) w w') w' (.sl z es) v;refine⟨rfl, ?_⟩;have hA:∀b,qy A β w w' b->qy A (fun _=>none) w w' b:=fun b hb=>⟨hb.1,hb.2.1,by simp⟩;obtain⟨h0,⟨_,rfl,rfl⟩|⟨b,cap,us,el,h1,rfl,h2,h3,h4,h5,h6,h7⟩⟩:=hv
 ·exact .slnil z
 ·obtain⟨q1,q2⟩:=hβ 0 b h1;have hle:es.length*z<=us.size:=AD (AH _ h2) h5;exact .sl (u:=fun j=>us.getD j undef) ⟨.inr q1,q2,by simp⟩ h2 h0 (fun j hj=>by
   have:j<us.size:=by omega
   simp[World.cell?,h4,this,Array.getD]) h6 fun i e c x hi hc=>(h7 i e c x hi hc).mono hA fun _ _=>rfl
end
def zbl {α:Type} (xs:List α):Option (List α):=ck (decide (xs.length<=zC)) (some xs)
def zkC {α:Type} {xs ys:List α} (h:zbl xs=some ys):xs.length<=zC∧ys=xs:=by obtain⟨h1,h2⟩:=qG h;exact⟨of_decide_eq_true h1,(Option.some.inj h2).symm⟩
def zcM {S:Seat} {id:Nat} {frz:Bool} {zero:List Value} {t:Ty} (h:Ok1 S id (zbi frz t.z zero)) (xs:List t.den) (ys:List t.den) (hy:zbl xs=some ys) (hz:Nat.ble t.z 2=true:=by rfl):(zb S).ret id (encAL [.sl t] xs) (encA (.own t) ys) []:=by obtain⟨h1,rfl⟩:=zkC hy;exact clone_ret h (by rw[Aq];unfold zcq;rw[hz];exact h1)
def zkm {S:Seat} {id:Nat} {frz:Bool} {zero:List Value} {t:Ty} (h:Ok1 S id (zbi frz t.z zero)) (xs:List t.den) (ys:List t.den) (hy:zbl xs=some ys) (hz:Nat.ble t.z 2=true:=by rfl):(zb S).ret id (encAL [.sl t] xs) (encA (.sl t) ys) [] :=
 ret_soft (by simp[encAL,encA,zG]) (zcM h xs ys hy hz)
def P76 (xs:List Int):Option (List Int):=zbl xs
def tf76:TFunc:=zbi false 1 [.int .i64 0]
def k76:CSpec:=⟨76,[.sl .int],.own .int,fun x=>P76 x,false,[]⟩
def r76 {S:Seat} (h:Ok1 S 76 tf76):Rt S k76:=fun x y hy=>zcM (t:=.int) h x y hy
def P76s (xs:List Int):Option (List Int):=zbl xs
def k76s:CSpec:=⟨76,[.sl .int],.sl .int,fun x=>P76s x,false,[]⟩
def r76s {S:Seat} (h:Ok1 S 76 tf76):Rt S k76s:=fun x y hy=>zkm (t:=.int) h x y hy
def P79 (xs:List Entry):Option (List Entry):=zbl xs
def tf79:TFunc:=zbi true 2 [.slice none 0 0,.int .i64 0]
def k79:CSpec:=⟨79,[.sl .entry],.own .entry,fun x=>P79 x,false,[]⟩
def r79 {S:Seat} (h:Ok1 S 79 tf79):Rt S k79:=fun x y hy=>zcM (t:=.entry) h x y hy
end
section
set_option maxRecDepth 100000
section
variable (F14:LD->(Option (Int×Int×Err))) (F15:Dim->(Option (Int×Err))) (F37:LM->ByteArray->(Option Int)) (F38_39:LD->Dim->(Option Bool)) (F39:Dim->Dim->(Option Bool)) (F40:LD->(Option Int)) (F41:ByteArray->(Option Err)) (F42:LM->Int->(Option Err)) (F63_64:LM->ByteArray->(Option Int)) (F64:Member->ByteArray->(Option Bool)) (F65_39:LD->Dim->(Option Int)) (F66_67:(List UInt8)->(Option Bool)) (F67:Int->(Option Bool)) (F75_67:(List UInt8)->(Option Int))
def tc67:TCode:=.seq (rg [om 2 (cb false)]) (.seq (.regionJ ⟨[.slot 2 .bool],[3,4,5,6,7,8],[],[]⟩ [om 3 0,oq 4 (Bi .lss 3 (.c (.int .u8 97))),om 5 4,og 6 (.mov 0) 5 false [],og 7 (Bi .gtr 6 (.c (.int .u8 122))) 5 false [],oq 8 (.pick 5 (cb true) 7),om 2 8] [] false) .ret) 
def tf67:TFunc:=⟨1,9,[.tmp 2],false,tc67,[]⟩
def S67 (a0:Int):Option Bool :=
 jn (σ:=Bool) (α:=Bool) (br (decide (a0<(97:Int)))
 (zt (some true))
 (zt (some (decide ((122:Int)<a0))))) fun x1 =>
 some x1
def P67:=S67
def k67:CSpec:=⟨67,[.u8],.bool,fun x=>P67 x,false,[]⟩
def r67 {S:Seat} (h:Ok1 S 67 tf67):RtF S [] (Rt S k67):=okr h
def tc75:TCode:=.seq (rg [om 4 (ci 0)]) (.seq (.seq (rg [om 6 0,oq 7 (Ln 6),om 8 (ci 0)]) (.loop ⟨[.slot 8 .int],[5,9,10,11,12,13,14,15,16,18],[],[]⟩ 0 (.seq (rg [oq 9 (Bi .lss 8 7)]) (.seq (.cond 9 .skip (.exit 0)) (.seq (.block 1 (.seq (rg [om 10 8,om 5 10]) (.seq (rg [om 11 1,om 12 0,om 13 5,oq 14 (.ia 1 12 13),oq 15 (Ld 14),oq 16 (.calld false 11 [15])]) (.cond 16 (.seq (rg [om 17 5,om 4 17]) .ret) .skip)))) (rg [oq 18 (Bi .add 8 (ci 1)),om 8 18])))))) (.seq (rg [om 4 (ci (-1))]) .ret)) 
def tf75:TFunc:=⟨2,19,[.tmp 4],false,tc75,[]⟩
def zfc (a0:(List UInt8)) (x1:Int):Option (LR Int Int) :=
 br (decide (x1<(a0.length:Int)))
 (bno (zu a0 x1) fun y2 =>
 bno (F67 ((UInt8.toNat y2:Nat):Int)) fun y3 =>
 br y3
 (yk (some x1))
 (nxO (some (wi (x1+(1:Int))))))
 (dnO (some x1))
def S75_67 (a0:(List UInt8)):Option Int :=
 lp (zfc F67 a0) (0:Int) fun x4 =>
 some (-1:Int)
def P75_67:=S75_67 P67
def k75_67:CSpec:=⟨75,[(.sl .u8),(.fnc 67 [])],.int,fun x=>P75_67 x.1,false,[]⟩
def r75_67 {S:Seat} (h:Ok1 S 75 tf75):RtF S [k67] (Rt S k75_67):=okr h
def tc66:TCode:=.seq (rg [om 4 (cb false)]) (.seq (rg [om 5 0,om 6 1,oq 7 (Cl 75 [5,6]),oq 8 (Bi .geq 7 (ci 0)),om 4 8]) .ret) 
def tf66:TFunc:=⟨2,9,[.tmp 4],false,tc66,[]⟩
def S66_67 (a0:(List UInt8)):Option Bool :=
 bno (F75_67 a0) fun y1 =>
 some (decide ((0:Int)<=y1))
def P66_67:=S66_67 P75_67
def k66_67:CSpec:=⟨66,[(.sl .u8),(.fnc 67 [])],.bool,fun x=>P66_67 x.1,false,[]⟩
def r66_67 {S:Seat} (h:Ok1 S 66 tf66):RtF S [k75_67] (Rt S k66_67):=okr h
def tc41:TCode:=.seq (rg [om 2 cz]) (.seq (.seq (.regionJ ⟨[.slot 14 .bool],[3,4,5,6,7,8,9,10,11,12,13],[],[]⟩ [om 3 0,oq 4 (.bin .str .eql 3 (cs ⟨#[]⟩)),om 5 4,og 6 (.mov 0) 5 false [],og 7 (.len true 6) 5 false [],og 8 (Bi .gtr 7 (ci 8)) 5 false [],oq 9 (.pick 5 (cb true) 8),om 10 9,og 11 (.mov 0) 10 false [],og 12 (.cvs 11) 10 false [],og 13 (Cl 66 [12,(.f 67)]) 10 false [],oq 14 (.pick 10 (cb true) 13)] [] false) (.cond 14 (.seq (rg [oq 15 (.ifc 1 (ci 2)),om 2 15]) .ret) .skip)) (.seq (rg [om 2 cz]) .ret)) 
def tf41:TFunc:=⟨1,16,[.tmp 2],false,tc41,[]⟩
def S41 (a0:ByteArray):Option Err :=
 jn (σ:=Bool) (α:=Err) (br (decide (a0=(⟨#[]⟩:ByteArray)))
 (zt (some true))
 (br (decide ((8:Int)<((ByteArray.size a0:Nat):Int)))
 (zt (some true))
 (bno (F66_67 ((ByteArray.data a0).toList)) fun y1 =>
 zt (some y1)))) fun x2 =>
 br x2
 (some (Err.no (2:Int)))
 (some Err.nil)
def P41:=S41 P66_67
def k41:CSpec:=⟨41,[.str],.err,fun x=>P41 x,false,[]⟩
def r41 {S:Seat} (h:Ok1 S 41 tf41):RtF S [k66_67] (Rt S k41):=okr h
def tc64:TCode:=.seq (rg [oq 2 (.box 0),om 3 (cb false)]) (.seq (rg [oq 4 (.fa 0 2),oq 5 (Ld 4),oq 6 (Ld 1),oq 7 (.bin .str .eql 5 6),om 3 7]) .ret) 
def tf64:TFunc:=⟨2,8,[.tmp 3],false,tc64,[]⟩
def S64 (a0:Member) (a1:ByteArray):Option Bool :=
 some (decide ((Member.name a0)=a1))
def P64:=S64
def k64:CSpec:=⟨64,[(.st .member),(.bx .str)],.bool,fun x=>P64 x.1 x.2,false,[]⟩
def r64 {S:Seat} (h:Ok1 S 64 tf64):RtF S [] (Rt S k64):=okr h
def tc63:TCode:=.seq (rg [om 4 (ci 0)]) (.seq (.seq (rg [om 6 0,oq 7 (Ln 6),om 8 (ci 0)]) (.loop ⟨[.slot 8 .int],[5,9,10,11,12,13,14,15,16,18],[],[]⟩ 0 (.seq (rg [oq 9 (Bi .lss 8 7)]) (.seq (.cond 9 .skip (.exit 0)) (.seq (.block 1 (.seq (rg [om 10 8,om 5 10]) (.seq (rg [om 11 1,om 12 0,om 13 5,oq 14 (.ia 4 12 13),oq 15 (.load (some 4) 14),oq 16 (.calld false 11 [15])]) (.cond 16 (.seq (rg [om 17 5,om 4 17]) .ret) .skip)))) (rg [oq 18 (Bi .add 8 (ci 1)),om 8 18])))))) (.seq (rg [om 4 (ci (-1))]) .ret)) 
def tf63:TFunc:=⟨2,19,[.tmp 4],false,tc63,[]⟩
def zfe (a0:LM) (a1:ByteArray) (x1:Int):Option (LR Int Int) :=
 br (decide (x1<(a0.length:Int)))
 (bno (zu a0 x1) fun y2 =>
 bno (F64 y2 a1) fun y3 =>
 br y3
 (yk (some x1))
 (nxO (some (wi (x1+(1:Int))))))
 (dnO (some x1))
def S63_64 (a0:LM) (a1:ByteArray):Option Int :=
 lp (zfe F64 a0 a1) (0:Int) fun x4 =>
 some (-1:Int)
def P63_64:=S63_64 P64
def zlk:CSpec:=⟨63,[(.sl .member),(.fnc 64 [(.bx .str)])],.int,fun x=>P63_64 x.1 x.2,false,[]⟩
def r63_64 {S:Seat} (h:Ok1 S 63 tf63):RtF S [k64] (Rt S zlk):=okr h
def tc37:TCode:=.seq (rg [oq 3 (.box 1),om 4 (ci 0)]) (.seq (rg [om 5 0,oq 6 (.mkfn 64 [3]),oq 7 (Cl 63 [5,6]),om 4 7]) .ret) 
def tf37:TFunc:=⟨2,8,[.tmp 4],false,tc37,[]⟩
def S37 (a0:LM) (a1:ByteArray):Option Int :=
 bno (F63_64 a0 a1) fun y1 =>
 some y1
def P37:=S37 P63_64
def k37:CSpec:=⟨37,[(.sl .member),.str],.int,fun x=>P37 x.1 x.2,false,[]⟩
def r37 {S:Seat} (h:Ok1 S 37 tf37):RtF S [zlk] (Rt S k37):=okr h
def tc42:TCode:=.seq (rg [om 4 cz]) (.seq (rg [om 7 0,om 8 1,oq 9 (.ia 4 7 8),oq 10 (.load (some 4) 9),oq 5 (.alloc [.string ⟨#[]⟩,.int .i64 0,.int .i64 0,.string ⟨#[]⟩]),on (.store 4 5 10)]) (.seq (.seq (rg [oq 11 (.fa 0 5),oq 12 (Ld 11),oq 13 (Cl 41 [12]),om 6 13]) (.seq (rg [om 14 6,oq 15 (.eqn false true 14)]) (.cond 15 (.seq (rg [om 16 6,om 4 16]) .ret) .skip))) (.seq (.block 0 (.seq (.region [om 18 0,om 19 1,od 20 (.slc 4 18 none (some 19)) [0,1],oq 21 (.fa 0 5),od 22 (Ld 21) [3],od 23 (Cl 37 [20,22]) [2,4],od 24 (Bi .geq 23 (ci 0)) [5],od 17 (.mov 24) [6,5]] [] true) (.cond 17 (.seq (rg [oq 25 (.ifc 1 (ci 7)),om 4 25]) .ret) (.seq (.regionJ ⟨[.slot 26 .bool],[27,28,29,30,31,32,33,34,35],[],[]⟩ [oq 27 (.fa 1 5),oq 28 (Ld 27),oq 29 (Bi .lss 28 (ci (-1))),om 30 29,og 31 (.fa 1 5) 30 false [],og 32 (Ld 31) 30 false [],og 33 (.mov 1) 30 false [],og 34 (Bi .geq 32 33) 30 false [],oq 35 (.pick 30 (cb true) 34),om 26 35] [] false) (.cond 26 (.seq (rg [oq 36 (.ifc 1 (ci 1)),om 4 36]) .ret) (.seq (.regionJ ⟨[.slot 37 .bool],[38,39,40,41,42,43,44,45,46,47,48,49],[],[]⟩ [oq 38 (.fa 1 5),oq 39 (Ld 38),oq 40 (Bi .geq 39 (ci 0)),om 41 40,og 42 (.mov 0) 41 true [],og 43 (.fa 1 5) 41 true [],og 44 (Ld 43) 41 true [],og 45 (.ia 4 42 44) 41 true [],og 46 (.fa 3 45) 41 true [],og 47 (Ld 46) 41 true [],og 48 (.bin .str .neq 47 (cs ⟨#[]⟩)) 41 true [],oq 49 (.pick 41 48 (cb false)),om 37 49] [] false) (.cond 37 (.seq (rg [oq 50 (.ifc 1 (ci 6)),om 4 50]) .ret) (.seq (.regionJ ⟨[.slot 51 .bool],[52,53,54,55,56,57,58,59],[],[]⟩ [oq 52 (.fa 2 5),oq 53 (Ld 52),oq 54 (Bi .lss 53 (ci (-1))),om 55 54,og 56 (.fa 2 5) 55 false [],og 57 (Ld 56) 55 false [],og 58 (Bi .gtr 57 (ci 1)) 55 false [],oq 59 (.pick 55 (cb true) 58),om 51 59] [] false) (.cond 51 (.seq (rg [oq 60 (.ifc 1 (ci 1)),om 4 60]) .ret) (.seq (rg [oq 62 (.fa 3 5),oq 63 (Ld 62),oq 64 (.len true 63),oq 65 (Bi .gtr 64 (ci 100)),om 61 65]) (.cond 61 (.seq (rg [oq 66 (.ifc 1 (ci 4)),om 4 66]) .ret) .skip))))))))))) (.seq (rg [om 4 cz]) .ret)))) 
def tf42:TFunc:=⟨2,67,[.tmp 4],false,tc42,[]⟩
def S42 (a0:LM) (a1:Int):Option Err :=
 bno (zu a0 a1) fun y1 =>
 bno (F41 (Member.name y1)) fun y2 =>
 br (!(Err.isNil y2))
 (some y2)
 (ck (decide (0<=(0:Int)∧(0:Int)<=a1∧a1<=(a0.length:Int))) <|
 bno (F37 (List.take (Int.toNat a1-Int.toNat (0:Int)) (List.drop (Int.toNat (0:Int)) a0)) (Member.name y1)) fun y3 =>
 br (decide ((0:Int)<=y3))
 (some (Err.no (7:Int)))
 (jn (σ:=Bool) (α:=Err) (br (decide ((Member.parent y1)<(-1:Int)))
 (zt (some true))
 (zt (some (decide (a1<=(Member.parent y1)))))) fun x4 =>
 br x4
 (some (Err.no (1:Int)))
 (jn (σ:=Bool) (α:=Err) (br (decide ((0:Int)<=(Member.parent y1)))
 (bno (zu a0 (Member.parent y1)) fun y5 =>
 zt (some (decide (¬(Member.formula y5)=(⟨#[]⟩:ByteArray)))))
 (zt (some false))) fun x6 =>
 br x6
 (some (Err.no (6:Int)))
 (jn (σ:=Bool) (α:=Err) (br (decide ((Member.sign y1)<(-1:Int)))
 (zt (some true))
 (zt (some (decide ((1:Int)<(Member.sign y1)))))) fun x7 =>
 br x7
 (some (Err.no (1:Int)))
 (br (decide ((100:Int)<((ByteArray.size (Member.formula y1):Nat):Int)))
 (some (Err.no (4:Int)))
 (some Err.nil))))))
def P42:=S42 P37 P41
def k42:CSpec:=⟨42,[(.sl .member),.int],.err,fun x=>P42 x.1 x.2,false,[]⟩
def r42 {S:Seat} (h:Ok1 S 42 tf42):RtF S [k37,k41] (Rt S k42):=okr h
def tc15:TCode:=.seq (rg [oq 1 (.box 0),om 2 (ci 0),om 3 cz]) (.seq (.seq (rg [oq 7 (.fa 0 1),oq 8 (Ld 7),oq 9 (Cl 41 [8]),om 4 9]) (.seq (rg [om 10 4,oq 11 (.eqn false true 10)]) (.cond 11 (.seq (rg [om 12 4,om 2 (ci (-1)),om 3 12]) .ret) .skip))) (.seq (.block 0 (.seq (.regionJ ⟨[.slot 13 .bool],[14,15,16,17,18,19,20,21],[],[]⟩ [oq 14 (.fa 1 1),oq 15 (Ld 14),oq 16 (Bi .lss 15 (ci 0)),om 17 16,og 18 (.fa 1 1) 17 false [],og 19 (Ld 18) 17 false [],og 20 (Bi .gtr 19 (ci 9)) 17 false [],oq 21 (.pick 17 (cb true) 20),om 13 21] [] false) (.cond 13 (.seq (rg [oq 22 (.ifc 1 (ci 1)),om 2 (ci (-1)),om 3 22]) .ret) (.seq (rg [oq 24 (.fa 2 1),oq 25 (Ld 24),oq 26 (Ln 25),oq 27 (Bi .gtr 26 (ci 12)),om 23 27]) (.cond 23 (.seq (rg [oq 28 (.ifc 1 (ci 4)),om 2 (ci (-1)),om 3 28]) .ret) (.seq (rg [oq 30 (.fa 2 1),oq 31 (Ld 30),oq 32 (Ln 31),oq 33 (Bi .eql 32 (ci 0)),om 29 33]) (.cond 29 (.seq (rg [oq 34 (.ifc 1 (ci 5)),om 2 (ci (-1)),om 3 34]) .ret) .skip))))))) (.seq (.seq (rg [oq 35 (.fa 2 1),oq 36 (Ld 35),oq 37 (Ln 36),om 38 (ci 0)]) (.loop ⟨[.slot 38 .int],[5,6,39,40,41,42,43,44,45,46,49],[],[]⟩ 1 (.seq (rg [oq 39 (Bi .lss 38 37)]) (.seq (.cond 39 .skip (.exit 1)) (.seq (.block 2 (.seq (rg [om 40 38,om 5 40]) (.seq (rg [oq 41 (.fa 2 1),oq 42 (Ld 41),om 43 5,oq 44 (Cl 42 [42,43]),om 6 44]) (.seq (rg [om 45 6,oq 46 (.eqn false true 45)]) (.cond 46 (.seq (rg [om 47 5,om 48 6,om 2 47,om 3 48]) .ret) .skip))))) (rg [oq 49 (Bi .add 38 (ci 1)),om 38 49])))))) (.seq (rg [om 2 (ci (-1)),om 3 cz]) .ret)))) 
def tf15:TFunc:=⟨1,50,[.tmp 2,.tmp 3],false,tc15,[]⟩
def zlQ (a0:Dim) (x3:Int):Option (LR Int (Int×Err)) :=
 br (decide (x3<((Dim.members a0).length:Int)))
 (bno (F42 (Dim.members a0) x3) fun y4 =>
 br (!(Err.isNil y4))
 (yk (some (x3,y4)))
 (nxO (some (wi (x3+(1:Int))))))
 (dnO (some x3))
def S15 (a0:Dim):Option (Int×Err) :=
 bno (F41 (Dim.name a0)) fun y1 =>
 br (!(Err.isNil y1))
 (some ((-1:Int),y1))
 (jn (σ:=Bool) (α:=(Int×Err)) (br (decide ((Dim.solve a0)<(0:Int)))
 (zt (some true))
 (zt (some (decide ((9:Int)<(Dim.solve a0)))))) fun x2 =>
 br x2
 (some ((-1:Int),Err.no (1:Int)))
 (br (decide ((12:Int)<((Dim.members a0).length:Int)))
 (some ((-1:Int),Err.no (4:Int)))
 (br (decide (((Dim.members a0).length:Int)=(0:Int)))
 (some ((-1:Int),Err.no (5:Int)))
 (lp (zlQ F42 a0) (0:Int) fun x5 =>
 some ((-1:Int),Err.nil)))))
def P15:=S15 P41 P42
def k15:CSpec:=⟨15,[(.st .dim)],(.tp [.int,.err]),fun x=>P15 x,false,[]⟩
def r15 {S:Seat} (h:Ok1 S 15 tf15):RtF S [k41,k42] (Rt S k15):=okr h
def tc39:TCode:=.seq (rg [oq 2 (.box 0),om 3 (cb false)]) (.seq (rg [oq 4 (.fa 0 2),oq 5 (Ld 4),oq 6 (.fa 0 1),oq 7 (Ld 6),oq 8 (.bin .str .eql 5 7),om 3 8]) .ret) 
def tf39:TFunc:=⟨2,9,[.tmp 3],false,tc39,[]⟩
def S39 (a0:Dim) (a1:Dim):Option Bool :=
 some (decide ((Dim.name a0)=(Dim.name a1)))
def P39:=S39
def k39:CSpec:=⟨39,[(.st .dim),(.bx .dim)],.bool,fun x=>P39 x.1 x.2,false,[]⟩
def r39 {S:Seat} (h:Ok1 S 39 tf39):RtF S [] (Rt S k39):=okr h
def tc65:TCode:=.seq (rg [om 4 (ci 0)]) (.seq (.seq (rg [om 6 0,oq 7 (Ln 6),om 8 (ci 0)]) (.loop ⟨[.slot 8 .int],[5,9,10,11,12,13,14,15,16,18],[],[]⟩ 0 (.seq (rg [oq 9 (Bi .lss 8 7)]) (.seq (.cond 9 .skip (.exit 0)) (.seq (.block 1 (.seq (rg [om 10 8,om 5 10]) (.seq (rg [om 11 1,om 12 0,om 13 5,oq 14 (.ia 3 12 13),oq 15 (.load (some 3) 14),oq 16 (.calld false 11 [15])]) (.cond 16 (.seq (rg [om 17 5,om 4 17]) .ret) .skip)))) (rg [oq 18 (Bi .add 8 (ci 1)),om 8 18])))))) (.seq (rg [om 4 (ci (-1))]) .ret)) 
def tf65:TFunc:=⟨2,19,[.tmp 4],false,tc65,[]⟩
def zfd (a0:LD) (a1:Dim) (x1:Int):Option (LR Int Int) :=
 br (decide (x1<(a0.length:Int)))
 (bno (zu a0 x1) fun y2 =>
 bno (F39 y2 a1) fun y3 =>
 br y3
 (yk (some x1))
 (nxO (some (wi (x1+(1:Int))))))
 (dnO (some x1))
def S65_39 (a0:LD) (a1:Dim):Option Int :=
 lp (zfd F39 a0 a1) (0:Int) fun x4 =>
 some (-1:Int)
def P65_39:=S65_39 P39
def k65_39:CSpec:=⟨65,[(.sl .dim),(.fnc 39 [(.bx .dim)])],.int,fun x=>P65_39 x.1 x.2,false,[]⟩
def r65_39 {S:Seat} (h:Ok1 S 65 tf65):RtF S [k39] (Rt S k65_39):=okr h
def tc38:TCode:=.seq (rg [om 4 (cb false)]) (.seq (rg [om 5 0,om 6 1,oq 7 (Cl 65 [5,6]),oq 8 (Bi .geq 7 (ci 0)),om 4 8]) .ret) 
def tf38:TFunc:=⟨2,9,[.tmp 4],false,tc38,[]⟩
def S38_39 (a0:LD) (a1:Dim):Option Bool :=
 bno (F65_39 a0 a1) fun y1 =>
 some (decide ((0:Int)<=y1))
def zjp:=S38_39 P65_39
def k38_39:CSpec:=⟨38,[(.sl .dim),(.fnc 39 [(.bx .dim)])],.bool,fun x=>zjp x.1 x.2,false,[]⟩
def r38_39 {S:Seat} (h:Ok1 S 38 tf38):RtF S [k65_39] (Rt S k38_39):=okr h
def tc40:TCode:=.seq (rg [oq 1 (.box 0),om 2 (ci 0)]) (.seq (rg [om 3 (ci 1)]) (.seq (.seq (rg [oq 6 (.fa 0 1),oq 7 (Ld 6),oq 8 (Ln 7),om 9 (ci 0)]) (.loop ⟨[.slot 3 .int,.slot 9 .int],[5,10,11,12,13,14,15,16,17,18],[5],[]⟩ 0 (.seq (rg [oq 10 (Bi .lss 9 8)]) (.seq (.cond 10 .skip (.exit 0)) (.seq (.block 1 (.seq (rg [oq 11 (.ia 3 7 9),oq 12 (.load (some 3) 11),oq 5 (.alloc [.string ⟨#[]⟩,.int .i64 0,.slice none 0 0]),on (.store 3 5 12)]) (rg [om 13 3,oq 14 (.fa 2 5),oq 15 (Ld 14),oq 16 (Ln 15),oq 17 (Bi .mul 13 16),om 3 17]))) (rg [oq 18 (Bi .add 9 (ci 1)),om 9 18])))))) (.seq (rg [om 19 3,om 2 19]) .ret))) 
def tf40:TFunc:=⟨1,20,[.tmp 2],false,tc40,[]⟩
def zlO (a0:LD) (x1:(Int×Int)):Option (LR (Int×Int) Int) :=
 br (decide (x1.2<(a0.length:Int)))
 (bno (zu a0 x1.2) fun y2 =>
 nxO (some (wi (x1.1*((Dim.members y2).length:Int)),wi (x1.2+(1:Int)))))
 (dnO (some (x1.1,x1.2)))
def S40 (a0:LD):Option Int :=
 lp (zlO a0) ((1:Int),(0:Int)) fun x3 =>
 some x3.1
def P40:=S40
def k40:CSpec:=⟨40,[(.st .outl)],.int,fun x=>P40 x,false,[]⟩
def r40 {S:Seat} (h:Ok1 S 40 tf40):RtF S [] (Rt S k40):=okr h
def tc14:TCode:=.seq (rg [oq 1 (.box 0),om 2 (ci 0),om 3 (ci 0),om 4 cz]) (.seq (.block 0 (.seq (rg [oq 10 (.fa 0 1),oq 11 (Ld 10),oq 12 (Ln 11),oq 13 (Bi .gtr 12 (ci 4)),om 9 13]) (.cond 9 (.seq (rg [oq 14 (.ifc 1 (ci 4)),om 2 (ci (-1)),om 3 (ci (-1)),om 4 14]) .ret) (.seq (rg [oq 16 (.fa 0 1),oq 17 (Ld 16),oq 18 (Ln 17),oq 19 (Bi .eql 18 (ci 0)),om 15 19]) (.cond 15 (.seq (rg [oq 20 (.ifc 1 (ci 5)),om 2 (ci (-1)),om 3 (ci (-1)),om 4 20]) .ret) .skip))))) (.seq (.seq (rg [oq 21 (.fa 0 1),oq 22 (Ld 21),oq 23 (Ln 22),om 24 (ci 0)]) (.loop ⟨[.slot 24 .int],[5,6,7,8,25,26,27,28,29,30,31,32,33,34,35,36,37,38,39,40,41,42,43,44,45,46,50],[6],[]⟩ 1 (.seq (rg [oq 25 (Bi .lss 24 23)]) (.seq (.cond 25 .skip (.exit 1)) (.seq (.block 2 (.seq (rg [om 26 24,oq 27 (.ia 3 22 24),oq 28 (.load (some 3) 27),oq 6 (.alloc [.string ⟨#[]⟩,.int .i64 0,.slice none 0 0]),om 5 26,on (.store 3 6 28)]) (.seq (rg [oq 30 (.load (some 3) 6),oq 31 (Cl 15 [30]),om 29 31,oq 32 (.ext 29 0),oq 33 (.ext 29 1),om 7 32,om 8 33]) (.seq (.seq (.regionJ ⟨[.slot 43 .bool],[34,35,36,37,38,39,40,41,42],[],[]⟩ [om 34 8,oq 35 (.eqn false false 34),om 36 35,og 37 (.fa 0 1) 36 true [],og 38 (Ld 37) 36 true [],og 39 (.mov 5) 36 true [],og 40 (.slc 3 38 none (some 39)) 36 true [],og 41 (.mkfn 39 [6]) 36 true [],og 42 (Cl 38 [40,41]) 36 true [],oq 43 (.pick 36 42 (cb false))] [] false) (.condJ ⟨[.slot 8 .err],[44],[],[]⟩ 43 (rg [oq 44 (.ifc 1 (ci 7)),om 8 44]) .skip)) (.seq (rg [om 45 8,oq 46 (.eqn false true 45)]) (.cond 46 (.seq (rg [om 47 5,om 48 7,om 49 8,om 2 47,om 3 48,om 4 49]) .ret) .skip)))))) (rg [oq 50 (Bi .add 24 (ci 1)),om 24 50])))))) (.seq (.seq (rg [oq 51 (.load (some 1) 1),oq 52 (Cl 40 [51]),oq 53 (Bi .gtr 52 (ci 3000))]) (.cond 53 (.seq (rg [oq 54 (.ifc 1 (ci 4)),om 2 (ci (-1)),om 3 (ci (-1)),om 4 54]) .ret) .skip)) (.seq (rg [om 2 (ci (-1)),om 3 (ci (-1)),om 4 cz]) .ret)))) 
def tf14:TFunc:=⟨1,55,[.tmp 2,.tmp 3,.tmp 4],false,tc14,[]⟩
def zlR (a0:LD) (x1:Int):Option (LR Int (Int×Int×Err)) :=
 br (decide (x1<(a0.length:Int)))
 (bno (zu a0 x1) fun y2 =>
 bno (F15 y2) fun y3 =>
 jn (σ:=Bool) (α:=(LR Int (Int×Int×Err))) (br (Err.isNil y3.2)
 (ck (decide (0<=(0:Int)∧(0:Int)<=x1∧x1<=(a0.length:Int))) <|
 bno (F38_39 (List.take (Int.toNat x1-Int.toNat (0:Int)) (List.drop (Int.toNat (0:Int)) a0)) y2) fun y4 =>
 zt (some y4))
 (zt (some false))) fun x5 =>
 jn (σ:=Err) (α:=(LR Int (Int×Int×Err))) (br x5
 (zt (some (Err.no (7:Int))))
 (zt (some y3.2))) fun x6 =>
 br (!(Err.isNil x6))
 (yk (some (x1,y3.1,x6)))
 (nxO (some (wi (x1+(1:Int))))))
 (dnO (some x1))
def S14 (a0:LD):Option (Int×Int×Err) :=
 br (decide ((4:Int)<(a0.length:Int)))
 (some ((-1:Int),(-1:Int),Err.no (4:Int)))
 (br (decide ((a0.length:Int)=(0:Int)))
 (some ((-1:Int),(-1:Int),Err.no (5:Int)))
 (lp (zlR F15 F38_39 a0) (0:Int) fun x7 =>
 bno (F40 a0) fun y8 =>
 br (decide ((3000:Int)<y8))
 (some ((-1:Int),(-1:Int),Err.no (4:Int)))
 (some ((-1:Int),(-1:Int),Err.nil))))
def P14:=S14 P15 zjp P40
def k14:CSpec:=⟨14,[(.st .outl)],(.tp [.int,.int,.err]),fun x=>P14 x,false,[]⟩
def r14 {S:Seat} (h:Ok1 S 14 tf14):RtF S [k15,k38_39,k40] (Rt S k14):=okr h
def tc51:TCode:=.seq (rg [oq 1 (.box 0),om 2 cz]) (.seq (rg [oq 7 (.load (some 1) 1),oq 8 (Cl 14 [7]),om 6 8,oq 9 (.ext 6 0),oq 10 (.ext 6 1),oq 11 (.ext 6 2),om 3 9,om 4 10,om 5 11]) (.seq (rg [om 12 5,om 2 12]) .ret)) 
def tf51:TFunc:=⟨1,13,[.tmp 2],false,tc51,[]⟩
def S51 (a0:LD):Option Err :=
 bno (F14 a0) fun y1 =>
 some y1.2.2
def P51:=S51 P14
def k51:CSpec:=⟨51,[(.st .outl)],.err,fun x=>P51 x,false,[]⟩
def r51 {S:Seat} (h:Ok1 S 51 tf51):RtF S [k14] (Rt S k51):=okr h
end
end
section
set_option maxRecDepth 100000
section
variable (F15:Dim->(Option (Int×Err))) (F43:Dim->LI->(Option Err)) (F44:Dim->Int->(Option Bool)) (F45:Dim->Int->Int->(Option (Int×Bool))) (F46:Dim->Int->(Option LI)) (F47:Dim->Int->(Option LI)) (F48:Dim->Int->(Option LI))
def tc47:TCode:=.seq (rg [oq 2 (.box 0),om 4 cn]) (.seq (.seq (rg [oq 7 (.fa 2 2),oq 8 (Ld 7),oq 9 (Ln 8),om 10 (ci 0)]) (.loop ⟨[.row 4 22 .int,.slot 10 .int],[5,6,11,12,13,14,15,16,17,18,19,20,21,22,23],[6,21],[]⟩ 0 (.seq (rg [oq 11 (Bi .lss 10 9)]) (.seq (.cond 11 .skip (.exit 0)) (.seq (.block 1 (.seq (rg [om 12 10,oq 13 (.ia 4 8 10),oq 14 (.load (some 4) 13),oq 6 (.alloc [.string ⟨#[]⟩,.int .i64 0,.int .i64 0,.string ⟨#[]⟩]),om 5 12,on (.store 4 6 14)]) (.seq (rg [oq 15 (.fa 1 6),oq 16 (Ld 15),om 17 1,oq 18 (Bi .eql 16 17)]) (.condJ ⟨[.row 4 22 .int],[19,20,21,22],[21],[]⟩ 18 (rg [om 19 4,om 20 5,oq 21 (.bslice false 1 [.int .i64 0] 1 [(0,20)]),oq 22 (.app 1 19 21),om 4 22]) .skip)))) (rg [oq 23 (Bi .add 10 (ci 1)),om 10 23])))))) (.seq (rg [om 24 4,om 4 24]) .ret)) 
def tf47:TFunc:=⟨2,25,[.tmp 4],false,tc47,[]⟩
def S47_L1 (a0:Dim) (a1:Int) (x1:(LI×Int)):Option (LR (LI×Int) LI) :=
 br (decide (x1.2<((Dim.members a0).length:Int)))
 (bno (zu (Dim.members a0) x1.2) fun y2 =>
 jn (σ:=(List Int)) (α:=(LR ((List Int)×Int) (List Int))) (br (decide ((Member.parent y2)=a1))
 (ck (decide (List.length x1.1+List.length ([x1.2]:List Int)<=zC)) <|
 zt (some (x1.1++([x1.2]:List Int))))
 (zt (some x1.1))) fun x3 =>
 nxO (some (x3,wi (x1.2+(1:Int)))))
 (dnO (some (x1.1,x1.2)))
def S47 (a0:Dim) (a1:Int):Option LI :=
 lp (S47_L1 a0 a1) (([]:List Int),(0:Int)) fun x4 =>
 some x4.1
def P47:=S47
def k47:CSpec:=⟨47,[(.st .dim),.int],(.sl .int),fun x=>P47 x.1 x.2,false,[]⟩
def r47 {S:Seat} (h:Ok1 S 47 tf47):RtF S [] (Rt S k47):=okr h
def tc44:TCode:=.seq (rg [oq 2 (.box 0),om 4 (cb false)]) (.seq (.regionJ ⟨[.slot 4 .bool],[5,6,7,8,9,10,11,12,13,14,15,16,17,18],[],[]⟩ [oq 5 (.fa 2 2),oq 6 (Ld 5),om 7 1,oq 8 (.ia 4 6 7),oq 9 (.fa 3 8),oq 10 (Ld 9),oq 11 (.bin .str .eql 10 (cs ⟨#[]⟩)),om 12 11,og 13 (.load (some 3) 2) 12 true [],og 14 (.mov 1) 12 true [],og 15 (.call true [] 47 [13,14]) 12 true [],og 16 (Ln 15) 12 true [],og 17 (Bi .eql 16 (ci 0)) 12 true [],oq 18 (.pick 12 17 (cb false)),om 4 18] [] false) .ret) 
def tf44:TFunc:=⟨2,19,[.tmp 4],false,tc44,[]⟩
def S44 (a0:Dim) (a1:Int):Option Bool :=
 jn (σ:=Bool) (α:=Bool) (bno (zu (Dim.members a0) a1) fun y1 =>
 br (decide ((Member.formula y1)=(⟨#[]⟩:ByteArray)))
 (bno (F47 a0 a1) fun y2 =>
 zt (some (decide ((y2.length:Int)=(0:Int)))))
 (zt (some false))) fun x3 =>
 some x3
def P44:=S44 P47
def k44:CSpec:=⟨44,[(.st .dim),.int],.bool,fun x=>P44 x.1 x.2,false,[]⟩
def r44 {S:Seat} (h:Ok1 S 44 tf44):RtF S [k47] (Rt S k44):=okr h
def tc48:TCode:=.seq (rg [oq 2 (.box 0),om 4 cn]) (.seq (.loop ⟨[.slot 1 .int,.row 4 10 .int],[5,6,7,8,9,10,11,12,13,14,15,16],[9],[]⟩ 0 (.seq (.seq (rg [om 5 1,oq 6 (Bi .geq 5 (ci 0))]) (.cond 6 .skip (.exit 0))) (.block 1 (.seq (rg [om 7 4,om 8 1,oq 9 (.bslice false 1 [.int .i64 0] 1 [(0,8)]),oq 10 (.app 1 7 9),om 4 10]) (rg [oq 11 (.fa 2 2),oq 12 (Ld 11),om 13 1,oq 14 (.ia 4 12 13),oq 15 (.fa 1 14),oq 16 (Ld 15),om 1 16]))))) (.seq (rg [om 17 4,om 4 17]) .ret)) 
def tf48:TFunc:=⟨2,18,[.tmp 4],false,tc48,[]⟩
def zff (a0:Dim) (x1:(Int×LI)):Option (LR (Int×LI) LI) :=
 br (decide ((0:Int)<=x1.1))
 (ck (decide (List.length x1.2+List.length ([x1.1]:List Int)<=zC)) <|
 bno (zu (Dim.members a0) x1.1) fun y2 =>
 nxO (some (Member.parent y2,x1.2++([x1.1]:List Int))))
 (dnO (some (x1.1,x1.2)))
def S48 (a0:Dim) (a1:Int):Option LI :=
 lp (zff a0) (a1,([]:List Int)) fun x3 =>
 some x3.2
def P48:=S48
def k48:CSpec:=⟨48,[(.st .dim),.int],(.sl .int),fun x=>P48 x.1 x.2,false,[]⟩
def r48 {S:Seat} (h:Ok1 S 48 tf48):RtF S [] (Rt S k48):=okr h
def tc45:TCode:=.seq (rg [oq 3 (.box 0),om 6 (ci 0),om 7 (cb false)]) (.seq (rg [om 8 (ci 1)]) (.seq (.seq (rg [oq 11 (.load (some 3) 3),om 12 2,oq 13 (.call true [] 48 [11,12]),oq 14 (Ln 13),om 15 (ci 0)]) (.loop ⟨[.slot 8 .int,.slot 15 .int],[10,16,17,18,19,20,21,23,24,25,26,27,28,29,30,31],[],[]⟩ 0 (.seq (rg [oq 16 (Bi .lss 15 14)]) (.seq (.cond 16 .skip (.exit 0)) (.seq (.block 1 (.seq (rg [oq 17 (.ia 1 13 15),oq 18 (Ld 17),om 10 18]) (.seq (.seq (rg [om 19 10,om 20 1,oq 21 (Bi .eql 19 20)]) (.cond 21 (.seq (rg [om 22 8,om 6 22,om 7 (cb true)]) .ret) .skip)) (rg [om 23 8,oq 24 (.fa 2 3),oq 25 (Ld 24),om 26 10,oq 27 (.ia 4 25 26),oq 28 (.fa 2 27),oq 29 (Ld 28),oq 30 (Bi .mul 23 29),om 8 30])))) (rg [oq 31 (Bi .add 15 (ci 1)),om 15 31])))))) (.seq (rg [om 6 (ci 0),om 7 (cb false)]) .ret))) 
def tf45:TFunc:=⟨3,32,[.tmp 6,.tmp 7],false,tc45,[]⟩
def zgl (a0:Dim) (a1:Int) (y1:LI) (x2:(Int×Int)):Option (LR (Int×Int) (Int×Bool)) :=
 br (decide (x2.2<(y1.length:Int)))
 (bno (zu y1 x2.2) fun y3 =>
 br (decide (y3=a1))
 (yk (some (x2.1,true)))
 (bno (zu (Dim.members a0) y3) fun y4 =>
 nxO (some (wi (x2.1*(Member.sign y4)),wi (x2.2+(1:Int))))))
 (dnO (some (x2.1,x2.2)))
def S45 (a0:Dim) (a1:Int) (a2:Int):Option (Int×Bool) :=
 bno (F48 a0 a2) fun y1 =>
 lp (zgl a0 a1 y1) ((1:Int),(0:Int)) fun x5 =>
 some ((0:Int),false)
def P45:=S45 P48
def k45:CSpec:=⟨45,[(.st .dim),.int,.int],(.tp [.int,.bool]),fun x=>P45 x.1 x.2.1 x.2.2,false,[]⟩
def r45 {S:Seat} (h:Ok1 S 45 tf45):RtF S [k48] (Rt S k45):=okr h
def tc46:TCode:=.seq (rg [oq 2 (.box 0),om 4 cn]) (.seq (.seq (rg [oq 8 (.fa 2 2),oq 9 (Ld 8),oq 10 (Ln 9),om 11 (ci 0)]) (.loop ⟨[.row 4 30 .int,.slot 11 .int],[5,6,7,12,13,14,15,16,17,18,19,20,21,22,23,24,25,26,27,28,29,30,31],[29],[]⟩ 0 (.seq (rg [oq 12 (Bi .lss 11 10)]) (.seq (.cond 12 .skip (.exit 0)) (.seq (.block 1 (.seq (rg [om 13 11,om 5 13]) (.seq (rg [oq 15 (.load (some 3) 2),om 16 1,om 17 5,oq 18 (Cl 45 [15,16,17]),om 14 18,oq 19 (.ext 14 0),oq 20 (.ext 14 1),om 6 19,om 7 20]) (.seq (.regionJ ⟨[.slot 26 .bool],[21,22,23,24,25],[],[]⟩ [om 21 7,om 22 21,og 23 (.load (some 3) 2) 22 true [],og 24 (.mov 5) 22 true [],og 25 (Cl 44 [23,24]) 22 true [],oq 26 (.pick 22 25 (cb false))] [] false) (.condJ ⟨[.row 4 30 .int],[27,28,29,30],[29],[]⟩ 26 (rg [om 27 4,om 28 5,oq 29 (.bslice false 1 [.int .i64 0] 1 [(0,28)]),oq 30 (.app 1 27 29),om 4 30]) .skip))))) (rg [oq 31 (Bi .add 11 (ci 1)),om 11 31])))))) (.seq (rg [om 32 4,om 4 32]) .ret)) 
def tf46:TFunc:=⟨2,33,[.tmp 4],false,tc46,[]⟩
def S46_L1 (a0:Dim) (a1:Int) (x1:(LI×Int)):Option (LR (LI×Int) LI) :=
 br (decide (x1.2<((Dim.members a0).length:Int)))
 (bno (F45 a0 a1 x1.2) fun y2 =>
 jn (σ:=Bool) (α:=(LR ((List Int)×Int) (List Int))) (br y2.2
 (bno (F44 a0 x1.2) fun y3 =>
 zt (some y3))
 (zt (some false))) fun x4 =>
 jn (σ:=(List Int)) (α:=(LR ((List Int)×Int) (List Int))) (br x4
 (ck (decide (List.length x1.1+List.length ([x1.2]:List Int)<=zC)) <|
 zt (some (x1.1++([x1.2]:List Int))))
 (zt (some x1.1))) fun x5 =>
 nxO (some (x5,wi (x1.2+(1:Int)))))
 (dnO (some (x1.1,x1.2)))
def S46 (a0:Dim) (a1:Int):Option LI :=
 lp (S46_L1 F44 F45 a0 a1) (([]:List Int),(0:Int)) fun x6 =>
 some x6.1
def P46:=S46 P44 P45
def k46:CSpec:=⟨46,[(.st .dim),.int],(.sl .int),fun x=>P46 x.1 x.2,false,[]⟩
def r46 {S:Seat} (h:Ok1 S 46 tf46):RtF S [k44,k45] (Rt S k46):=okr h
end
end
end Ab
