import Derived.Lib.Split
import Derived.Lib.SplitLaws
import Derived.Lib.Join
import Derived.Test.YtkaifdgeigdbhaaGreatDoorHE
set_option linter.unusedVariables false
set_option linter.unusedSimpArgs false
noncomputable section
namespace Ab
open Go
section
open Go Go.RowKit
def zcL (frz:Bool) (z:Nat) (zero:List Value):TFunc:={ np:=1,nt:=8,res:=[.tmp 2],own:=false,body:=cloneC frz z zero }
section
variable {S:Seat} {id:Nat} {frz:Bool} {z:Nat} {zero:List Value}
theorem zcK (h:Ok1 S id (zcL frz z zero)) {x:AV} {es:List (List AV)} (hx:∀ (d:Nat) (st:ASt),st.ev (.t 3)=x->aop (.eqn true false (.t 3)) d st=some (.v (.bool false),st)) (he:∀ hp,jq hp z x=some es) (ho:zp x=false)
  (hroom:es.length<=zab z):(za S).ret id [x] (.sl z es) []:=by
 obtain ⟨st',k1,_,k2⟩:=zgg (M:=za S) (frz:=frz) (zero:=zero) hx he hroom (enter [] [x]) (by
  clear hx he;cases x with
  | own=>simp[zp] at ho
  | _=>rfl) (je [] 0 [x] (by simpa using ho))
 exact h id (zcL frz z zero).er [x] (.sl z es) [] (if_pos rfl) ⟨rfl,by simp[qV,ho,zx,TFunc.er,zcL],.ret,st',k1,.inr rfl,k2⟩
theorem zi9 (h:Ok1 S id (zcL frz z zero)):(za S).ret id [aN] aN []:=by refine h id (zcL frz z zero).er [aN] aN [] (if_pos rfl) ⟨rfl,rfl,.ret,_,.seqN (.region (.cons (.inl ⟨rfl,_,_,rfl,rfl⟩) (.nil _))) (.seqE (.seqN (.region (.cons (.inl ⟨rfl,_,_,rfl,rfl⟩) (.cons (.inl ⟨rfl,_,_,rfl,rfl⟩) (.nil _)))) (.cond (t:=true) rfl (.seqN (.region (.cons (.inl ⟨rfl,_,_,rfl,rfl⟩) (.nil _))) (.ret _)))) (by intro e;cases e)),.inr rfl,rfl⟩
theorem zi8 (h:Ok1 S id (zcL frz z zero)) {es:List (List AV)} (hroom:es.length<=zab z):(za S).ret id [.sl z es] (.sl z es) []:=by
 cases es with
 | cons e es =>refine zcK h (fun d st hs => ?_) (fun hp=>by simp[jq]) rfl hroom;simp only[aop,hs,if_true]
 | nil =>
  intro g hg;refine jM (fun A w vs hl hA hJ ha => ?_) (by simp[zp]);have hv:=ha 0 _ rfl;have c1:(za S).ret id [aN] (.sl z []) []:=zgN rfl rfl (.inr (.inl ⟨rfl,rfl,.nil z⟩)) (zi9 h);have c2:∀ a cap,(za S).ret id [.v (.slice (some a) 0 cap)] (.sl z []) []:=fun a cap =>
   zcK h (fun d st hs=>by simp only[aop,hs,if_true]) (fun hp=>rfl) rfl (by exact Nat.zero_le _)
  have use:∀ x,(za S).ret id [x] (.sl z []) []->zp x=false->VR0 S A w x (vs.getD 0 undef)->Calls S.P g vs w fun e w'=>∃ v,e=.returned v∧KeepO S.jg w w'∧S.jn w'∧zbl S A w w' (.sl z []) v:=fun x hr ho hx =>
   (hr g hg).old (by simpa using ho) A w vs hl hA hJ fun i y hy=>by
    cases i with
    | zero=>simp at hy;subst hy;exact hx
    | succ i=>simp at hy
  have hs:=VR.sl_inv (σ:=fun _=>none) (.of0 hv);rcases hs with ⟨_,hr⟩ | ⟨b,o',cap,u,hr,_⟩ | ⟨_,a,cap,hr⟩
  ·exact use aN c1 rfl (by rw[hr];exact .v _)
  ·exact use _ (c2 _ cap) rfl (by rw[hr];exact .v _)
  ·exact use _ (c2 a cap) rfl (by rw[hr];exact .v _)
end
def P363 (xs:List Int):Option (List Int):=wB xs
def tf363:TFunc:=zcL false 1 [.int .i64 0]
def k363:CSpec:=⟨363,[.sl .int],.sl .int,fun x=>P363 x,false,[]⟩
theorem r363 {S:Seat} (h:Ok1 S 363 tf363):Rt S k363:=fun (x:List Int) (y:List Int) hy=>by
 obtain ⟨h1,rfl⟩:=zdc (show wB x=some y from hy);exact zi8 (z:=1) h (by rw[List.length_map];exact h1)
end
section
set_option maxRecDepth 100000
section
variable (F156:ByteArray->Int->(Option (Int×Bool))) (F157:Int->(Option ByteArray)) (F167:ByteArray->(Option (Int×Err))) (F30:Int->(Option Bool)) (F52:Cell->(Option Err)) (F8:Int->(Option Cell))
def tc139:TCode:=.seq (rg [oq 1 (.box 0),om 2 (cs ⟨#[]⟩),om 3 cz]) (.seq (.seq (rg [oq 5 (.load (some 2) 1),oq 6 (.call false [] 52 [5]),om 4 6]) (.seq (rg [om 7 4,oq 8 (.eqn false true 7)]) (.cond 8 (.seq (rg [om 9 4,om 2 (cs ⟨#[]⟩),om 3 9]) (.ret)) (.skip)))) (.seq (.seq (rg [oq 10 (.fa 0 1),oq 11 (.load none 10)]) (.block 0 (.seq (rg [oq 13 (.bin .int .eql 11 (ci 0)),om 12 13]) (.cond 12 (.seq (rg [om 2 (cs ⟨#[45]⟩),om 3 cz]) (.ret)) (.seq (rg [oq 15 (.bin .int .eql 11 (ci 2)),om 14 15]) (.cond 14 (.seq (rg [om 2 (cs ⟨#[35]⟩),om 3 cz]) (.ret)) (.skip))))))) (.seq (rg [oq 16 (.fa 1 1),oq 17 (.load none 16),oq 18 (.call false [] 157 [17]),om 2 18,om 3 cz]) (.ret)))) 
def tf139:TFunc:=⟨1,19,[.tmp 2,.tmp 3],false,tc139,[]⟩
def S139 (a0:Cell):Option (ByteArray×Err) :=
 bno (F52 a0) fun y1 =>
 br (!(Err.isNil y1))
 (some ((⟨#[]⟩:ByteArray),y1))
 (br (decide ((Cell.k a0)=(0:Int)))
 (some ((⟨#[45]⟩:ByteArray),Err.nil))
 (br (decide ((Cell.k a0)=(2:Int)))
 (some ((⟨#[35]⟩:ByteArray),Err.nil))
 (bno (F157 (Cell.n a0)) fun y2 =>
 some (y2,Err.nil))))
theorem s139 (a0:Cell):tf139.run [⟨157,[.int],.str,fun x=>F157 x,false,[]⟩,
 ⟨52,[(.st .cell)],.err,fun x=>F52 x,false,[]⟩] [(.st .cell)] (.tp [.str,.err]) a0=S139 F157 F52 a0:=by kernel_rfl
end
end
section
open Go Go.RowKit
def ziZ (xs:List ByteArray) (sep:ByteArray):ByteArray:=⟨(Lib.join (xs.map (·.data.toList)) sep.data.toList).toArray⟩
def JoinAt (S:Seat) (id:Nat):Prop:=∀ g,zV g S.fns=some id ->
 (∀ (a:Option Addr) (c:Nat) (sep:ByteArray) (w:World),Calls S.P g #[.slice a 0 c,.string sep] w fun e w'=>e=.returned (.string ⟨#[]⟩)∧w'=w) ∧
 ∀ (bk o c:Nat) (xs:List ByteArray) (sep:ByteArray) (w:World),(∀ (j:Nat) x,xs[j]? = some x->w.cell? ⟨bk,o+j,none⟩=some (.string x))->bk < w.heap.size->xs.length<=140737488355328->xs.length<=c->(ziZ xs sep).size<=140737488355328 ->
  Calls S.P g #[.slice (some ⟨bk,o,none⟩) xs.length c,.string sep] w fun e w'=>e=.returned (.string (ziZ xs sep))∧KeepO (fun _=>False) w w'
def P154 (xs:List ByteArray) (sep:ByteArray):Option ByteArray:=ck (decide (xs.length<=140737488355328∧(ziZ xs sep).size<=140737488355328)) (some (ziZ xs sep))
def k154:CSpec:=⟨154,[.sl .str,.str],.str,fun x=>P154 x.1 x.2,false,[]⟩
theorem r154 {S:Seat} (h:JoinAt S 154):Rt S k154:=fun (x:List ByteArray×ByteArray) (y:ByteArray) hy=>by
 obtain ⟨xs,sep⟩:=x;obtain ⟨h1,h2⟩:=qy (show P154 xs sep=some y from hy);obtain ⟨h0,h1⟩:=of_decide_eq_true h1;obtain rfl:=Option.some.inj h2;intro g hg;show yT S g [.sl 1 (xs.map fun x=>[AV.v (.string x)]),.v (.string sep)] (.v (.string _)) [];refine zbP (fun A w vs hl hA ha => ?_) (by simp[zp]);obtain ⟨x0,x1,rfl⟩:∃ x0 x1,vs=#[x0,x1]:=by
  obtain ⟨l⟩:=vs
  match l,hl with
  | [x0,x1],_=>exact ⟨x0,x1,rfl⟩
 have hr:VR0 S A w (.sl 1 (xs.map fun x=>[AV.v (.string x)])) x0:=ha 0 _ rfl;obtain rfl:x1=.string sep:=VR.v_inv (σ:=fun _=>none) (.of0 (ha 1 _ rfl));obtain ⟨hn,hm⟩:=h g hg;have fin:∀ (e:Ending) (w':World),e=.returned (.string (ziZ xs sep))∧KeepO (fun _=>False) w w'->∃ v,e=.returned v∧KeepO (fun _=>False) w w'∧zbl S A w w' (.v (.string (ziZ xs sep))) v:=(by rintro e w' ⟨rfl,hk⟩;exact ⟨_,rfl,hk,fun _=>none,by simp,by simp,rfl,.v _⟩);generalize hxs:(xs.map fun x=>[AV.v (.string x)])=es at hr;cases hr with
 | sl hb hlen hz hcell hone hval =>
  rename_i b o cap u;have el:es.length=xs.length:=by rw[← hxs];simp
  rw[el] at hlen hcell ⊢;refine (hm b o cap xs sep w (fun j x hj => ?_) (hA.1 _ hb) h0 hlen h1).mono fin;have hj':j < xs.length:=(List.getElem?_eq_some_iff.1 hj).1;rw[hcell j (by omega)];have:=hval j [AV.v (.string x)] 0 (.v (.string x)) (by rw[← hxs];simp[hj]) rfl;rw[Nat.mul_one,Nat.add_zero] at this;rw[VR.v_inv (σ:=fun _=>none) (.of0 this)]
 | slnil _ =>
  have:xs=[]:=by cases xs with | nil=>rfl | cons a l=>simp at hxs
  subst this;exact (hn none 0 sep w).mono fun e w' ⟨he,hw⟩=>fin e w' ⟨he,hw ▸ .refl _ _⟩
 | slemp _ a cap =>
  have:xs=[]:=by cases xs with | nil=>rfl | cons a l=>simp at hxs
  subst this;exact (hn (some a) cap sep w).mono fun e w' ⟨he,hw⟩=>fin e w' ⟨he,hw ▸ .refl _ _⟩
end
section
set_option maxRecDepth 100000
section
variable (F104:LI->LI->(Option Bool)) (F139:Cell->(Option (ByteArray×Err))) (F144:Cell->(Option Int)) (F154:(List ByteArray)->ByteArray->(Option ByteArray)) (F24:LC->LC->(Option Bool)) (F363:LI->(Option LI)) (F378:Grid->(Option Err)) (F389_390:(List LC)->Grid->(Option Bool)) (F390:LC->Grid->(Option Bool)) (F391:LD->Int->LI->(Option ((List ByteArray)×Bool))) (F395_390:(List LC)->Grid->(Option Int)) (F51:LD->(Option Err)) (F52:Cell->(Option Err))
def tc390:TCode:=.seq (rg [om 3 (cb false)]) (.seq (rg [om 4 0,oq 5 (.len false 4),oq 6 (.fa 1 1),oq 7 (.load none 6),oq 8 (.len false 7),oq 9 (.bin .int .neq 5 8),om 3 9]) (.ret)) 
def tf390:TFunc:=⟨2,10,[.tmp 3],false,tc390,[]⟩
def S390 (a0:LC) (a1:Grid):Option Bool :=
 some (decide (¬ ((List.length a0:Nat):Int)=((List.length (Grid.cols a1):Nat):Int)))
def P390:=S390
def k390:CSpec:=⟨390,[(.sl .cell),(.bx .grid)],.bool,fun x=>P390 x.1 x.2,false,[]⟩
theorem r390 {S:Seat} (h:Ok1 S 390 tf390):RtF S [] (Rt S k390):=okr h rfl fun x=>by kernel_rfl
def tc395:TCode:=.seq (rg [om 4 (ci 0)]) (.seq (.seq (rg [om 6 0,oq 7 (.len false 6),om 8 (ci 0)]) (.loop ⟨[.slot 8 .int],[5,9,10,11,12,13,14,15,16,18],[],[]⟩ 0 (.seq (rg [oq 9 (.bin .int .lss 8 7)]) (.seq (.cond 9 (.skip) (.exit 0)) (.seq (.block 1 (.seq (rg [om 10 8,om 5 10]) (.seq (rg [om 11 1,om 12 0,om 13 5,oq 14 (.ia 1 12 13),oq 15 (.load none 14),oq 16 (.calld false 11 [15])]) (.cond 16 (.seq (rg [om 17 5,om 4 17]) (.ret)) (.skip))))) (rg [oq 18 (.bin .int .add 8 (ci 1)),om 8 18])))))) (.seq (rg [om 4 (ci (-1))]) (.ret))) 
def tf395:TFunc:=⟨2,19,[.tmp 4],false,tc395,[]⟩
def yR (a0:(List LC)) (a1:Grid) (x1:Int):Option (LR Int Int) :=
 br (decide (x1 < ((List.length a0:Nat):Int)))
 (bno (zn a0 x1) fun y2 =>
 bno (F390 y2 a1) fun y3 =>
 br y3
 (jB (some x1))
 (nxO (some (wi (x1+(1:Int))))))
 (dnO (some x1))
def zim (a0:(List LC)) (a1:Grid):Option Int :=
 lp (yR F390 a0 a1) (0:Int) fun x4 =>
 some (-1:Int)
def zb4:=zim P390
def zeA:CSpec:=⟨395,[(.sl (.sl .cell)),(.fnc 390 [(.bx .grid)])],.int,fun x=>zb4 x.1 x.2,false,[]⟩
theorem r395_390 {S:Seat} (h:Ok1 S 395 tf395):RtF S [k390] (Rt S zeA):=okr h rfl fun x=>by kernel_rfl
def tc389:TCode:=.seq (rg [om 4 (cb false)]) (.seq (rg [om 5 0,om 6 1,oq 7 (.call false [] 395 [5,6]),oq 8 (.bin .int .geq 7 (ci 0)),om 4 8]) (.ret)) 
def tf389:TFunc:=⟨2,9,[.tmp 4],false,tc389,[]⟩
def zin (a0:(List LC)) (a1:Grid):Option Bool :=
 bno (F395_390 a0 a1) fun y1 =>
 some (decide ((0:Int)<=y1))
def zb5:=zin zb4
def zeB:CSpec:=⟨389,[(.sl (.sl .cell)),(.fnc 390 [(.bx .grid)])],.bool,fun x=>zb5 x.1 x.2,false,[]⟩
theorem r389_390 {S:Seat} (h:Ok1 S 389 tf389):RtF S [zeA] (Rt S zeB):=okr h rfl fun x=>by kernel_rfl
def tc378:TCode:=.seq (rg [oq 1 (.box 0),om 2 cz]) (.seq (.seq (.regionJ ⟨[.slot 20 .bool],[8,9,10,11,12,13,14,15,16,17,18,19],[],[]⟩ [oq 8 (.fa 2 1),oq 9 (.load none 8),oq 10 (.len false 9),oq 11 (.fa 0 1),oq 12 (.load none 11),oq 13 (.len false 12),oq 14 (.bin .int .neq 10 13),om 15 14,og 16 (.fa 2 1) 15 false [],og 17 (.load none 16) 15 false [],og 18 (.mkfn 390 [1]) 15 false [],og 19 (.call false [] 389 [17,18]) 15 false [],oq 20 (.pick 15 (cb true) 19)] [] false) (.cond 20 (.seq (rg [oq 21 (.ifc 1 (ci 3)),om 2 21]) (.ret)) (.skip))) (.seq (.seq (rg [oq 22 (.fa 2 1),oq 23 (.load none 22),oq 24 (.len false 23),om 25 (ci 0)]) (.loop ⟨[.slot 25 .int],[4,6,7,26,27,28,29,30,31,32,33,34,35,36,37,38,40,41],[6],[]⟩ 0 (.seq (rg [oq 26 (.bin .int .lss 25 24)]) (.seq (.cond 26 (.skip) (.exit 0)) (.seq (.block 1 (.seq (rg [oq 27 (.ia 1 23 25),oq 28 (.load none 27),om 4 28]) (.seq (rg [om 29 4,oq 30 (.len false 29),om 31 (ci 0)]) (.loop ⟨[.slot 31 .int],[6,7,32,33,34,35,36,37,38,40],[6],[]⟩ 2 (.seq (rg [oq 32 (.bin .int .lss 31 30)]) (.seq (.cond 32 (.skip) (.exit 2)) (.seq (.block 3 (.seq (rg [oq 33 (.ia 2 29 31),oq 34 (.load (some 2) 33),oq 6 (.alloc [.int .i64 0,.int .i64 0]),on (.store 2 6 34)]) (.seq (rg [oq 35 (.load (some 2) 6),oq 36 (.call false [] 52 [35]),om 7 36]) (.seq (rg [om 37 7,oq 38 (.eqn false true 37)]) (.cond 38 (.seq (rg [om 39 7,om 2 39]) (.ret)) (.skip)))))) (rg [oq 40 (.bin .int .add 31 (ci 1)),om 31 40])))))))) (rg [oq 41 (.bin .int .add 25 (ci 1)),om 25 41])))))) (.seq (rg [om 2 cz]) (.ret)))) 
def tf378:TFunc:=⟨1,42,[.tmp 2],false,tc378,[]⟩
def zc5 (y4:LC) (x5:Int):Option (LR Int (LR Int Err)) :=
 br (decide (x5 < ((List.length y4:Nat):Int)))
 (bno (zn y4 x5) fun y6 =>
 bno (F52 y6) fun y7 =>
 br (!(Err.isNil y7))
 (jB (jB (some y7)))
 (nxO (some (wi (x5+(1:Int))))))
 (dnO (some x5))
def ze0 (a0:Grid) (x3:Int):Option (LR Int Err) :=
 br (decide (x3 < ((List.length (Grid.cells a0):Nat):Int)))
 (bno (zn (Grid.cells a0) x3) fun y4 =>
 lp (zc5 F52 y4) (0:Int) fun x8 =>
 nxO (some (wi (x3+(1:Int)))))
 (dnO (some x3))
def S378 (a0:Grid):Option Err :=
 jn (σ:=Bool) (α:=Err) (br (decide (¬ ((List.length (Grid.cells a0):Nat):Int)=((List.length (Grid.rows a0):Nat):Int)))
 (zB (some true))
 (bno (F389_390 (Grid.cells a0) a0) fun y1 =>
 zB (some y1))) fun x2 =>
 br x2
 (some (Err.no (3:Int)))
 (lp (ze0 F52 a0) (0:Int) fun x9 =>
 some Err.nil)
def P378:=S378 zb5 P52
def k378:CSpec:=⟨378,[(.st .grid)],.err,fun x=>P378 x,false,[]⟩
theorem r378 {S:Seat} (h:Ok1 S 378 tf378):RtF S [zeB,k52] (Rt S k378):=okr h rfl fun x=>by kernel_rfl
def tc376:TCode:=.seq (rg [oq 1 (.box 0),oq 2 (.alloc [.slice none 0 0,.slice none 0 0,.slice none 0 0]),om 3 cz]) (.seq (.seq (rg [oq 9 (.load (some 3) 1),oq 10 (.call false [] 378 [9]),om 4 10]) (.seq (rg [om 11 4,oq 12 (.eqn false true 11)]) (.cond 12 (.seq (rg [oq 13 (.build [.slice none 0 0,.slice none 0 0,.slice none 0 0] []),om 14 4,on (.store 3 2 13),om 3 14]) (.ret)) (.skip)))) (.seq (.region [oq 15 (.fa 1 1),od 16 (.load none 15) [0],od 17 (.call true [] 363 [16]) [1],oq 18 (.fa 0 1),od 19 (.load none 18) [3],od 20 (.call true [] 363 [19]) [4,2],od 21 (.build [.slice none 0 0,.slice none 0 0,.slice none 0 0] [(0,1,17),(1,1,20)]) [2,5],oq 5 (.alloc [.slice none 0 0,.slice none 0 0,.slice none 0 0]),⟨none,.store 3 5 21,none,[7,6,5,0,1,2,3,4,5,6,7]⟩] [] true) (.seq (.seq (rg [oq 22 (.fa 1 1),oq 23 (.load none 22),oq 24 (.len false 23),om 25 (ci 0)]) (.loop ⟨[.slot 25 .int,.var 5 [.sh (.sl .int),.sh (.sl .int),.row 50 (.sl .cell)]],[6,7,8,26,27,28,29,30,31,32,33,34,35,36,37,38,39,40,41,42,43,44,45,46,47,48,49,50,51,52],[43,44,49],[]⟩ 0 (.seq (rg [oq 26 (.bin .int .lss 25 24)]) (.seq (.cond 26 (.skip) (.exit 0)) (.seq (.block 1 (.seq (rg [om 27 25,om 6 27]) (.seq (rg [om 7 cn]) (.seq (.seq (rg [oq 28 (.fa 0 1),oq 29 (.load none 28),oq 30 (.len false 29),om 31 (ci 0)]) (.loop ⟨[.row 7 44 .cell,.slot 31 .int],[8,32,33,34,35,36,37,38,39,40,41,42,43,44,45],[43],[]⟩ 2 (.seq (rg [oq 32 (.bin .int .lss 31 30)]) (.seq (.cond 32 (.skip) (.exit 2)) (.seq (.block 3 (.seq (rg [om 33 31,om 8 33]) (.region [om 34 7,oq 35 (.fa 2 1),oq 36 (.load none 35),om 37 8,oq 38 (.ia 1 36 37),oq 39 (.load none 38),om 40 6,oq 41 (.ia 2 39 40),oq 42 (.load (some 2) 41),oq 43 (.bslice false 2 [.int .i64 0,.int .i64 0] 1 [(0,42)]),oq 44 (.app 2 34 43),om 7 44] [.int,.int,.int,.int,.int,.int,.int,.int,.int,.cell,.cell] false))) (rg [oq 45 (.bin .int .add 31 (ci 1)),om 31 45])))))) (.region [oq 46 (.fa 2 5),oq 47 (.load none 46),om 48 7,oq 49 (.bslice true 1 [.slice none 0 0] 1 [(0,48)]),oq 50 (.app 1 47 49),oq 51 (.fa 2 5),on (.store 1 51 50)] [.int,.int,.int,(.sl .cell),(.sl .cell)] false))))) (rg [oq 52 (.bin .int .add 25 (ci 1)),om 25 52])))))) (.seq (rg [oq 53 (.load (some 3) 5),on (.store 3 2 53),om 3 cz]) (.ret))))) 
def tf376:TFunc:=⟨1,54,[.cell 2 (some 3),.tmp 3],false,tc376,[]⟩
def zc6 (a0:Grid) (x4:(Int×(LI×LI×(List LC)))) (x5:(LC×Int)):Option (LR (LC×Int) (LR (Int×(LI×LI×(List LC))) (Grid×Err))) :=
 br (decide (x5.2 < ((List.length (Grid.rows a0):Nat):Int)))
 (bno (zn (Grid.cells a0) x5.2) fun y6 =>
 bno (zn y6 x4.1) fun y7 =>
 ck (decide (List.length x5.1+List.length ([y7]:List Cell)<=zF)) <|
 nxO (some (x5.1++([y7]:List Cell),wi (x5.2+(1:Int)))))
 (dnO (some (x5.1,x5.2)))
def ze1 (a0:Grid) (x4:(Int×(LI×LI×(List LC)))):Option (LR (Int×(LI×LI×(List LC))) (Grid×Err)) :=
 br (decide (x4.1 < ((List.length (Grid.cols a0):Nat):Int)))
 (lp (zc6 a0 x4) (([]:List Cell),(0:Int)) fun x8 =>
 ck (decide (List.length x4.2.2.2+List.length ([x8.1]:List (List Cell))<=zF)) <|
 nxO (some (wi (x4.1+(1:Int)),(x4.2.1,x4.2.2.1,x4.2.2.2++([x8.1]:List (List Cell))))))
 (dnO (some (x4.1,(x4.2.1,x4.2.2.1,x4.2.2.2))))
def S376 (a0:Grid):Option (Grid×Err) :=
 bno (F378 a0) fun y1 =>
 br (!(Err.isNil y1))
 (some (Grid.mk ([]:List Int) ([]:List Int) ([]:List (List Cell)),y1))
 (bno (F363 (Grid.cols a0)) fun y2 =>
 bno (F363 (Grid.rows a0)) fun y3 =>
 lp (ze1 a0) ((0:Int),(y2,y3,([]:List (List Cell)))) fun x9 =>
 some (Grid.mk x9.2.1 x9.2.2.1 x9.2.2.2,Err.nil))
def P376:=S376 P363 P378
def k376:CSpec:=⟨376,[(.st .grid)],(.tp [(.st .grid),.err]),fun x=>P376 x,false,[]⟩
theorem r376 {S:Seat} (h:Ok1 S 376 tf376):RtF S [k363,k378] (Rt S k376):=okr h rfl fun x=>by kernel_rfl
def tc379:TCode:=.seq (rg [oq 2 (.box 0),oq 3 (.box 1),om 4 (cb false)]) (.seq (rg [oq 9 (.fa 0 2),oq 10 (.load none 9),oq 11 (.fa 0 3),oq 12 (.load none 11),oq 13 (.call false [] 104 [10,12]),om 5 13]) (.seq (rg [oq 14 (.fa 1 2),oq 15 (.load none 14),oq 16 (.fa 1 3),oq 17 (.load none 16),oq 18 (.call false [] 104 [15,17]),om 6 18]) (.seq (.seq (.regionJ ⟨[.slot 33 .bool],[19,20,21,22,23,24,25,26,27,28,29,30,31,32],[],[]⟩ [om 19 5,oq 20 (.un .not 19),om 21 20,og 22 (.mov 6) 21 false [],og 23 (.un .not 22) 21 false [],oq 24 (.pick 21 (cb true) 23),om 25 24,og 26 (.fa 2 2) 25 false [],og 27 (.load none 26) 25 false [],og 28 (.len false 27) 25 false [],og 29 (.fa 2 3) 25 false [],og 30 (.load none 29) 25 false [],og 31 (.len false 30) 25 false [],og 32 (.bin .int .neq 28 31) 25 false [],oq 33 (.pick 25 (cb true) 32)] [] false) (.cond 33 (.seq (rg [om 4 (cb false)]) (.ret)) (.skip))) (.seq (.seq (rg [om 7 (ci 0)]) (.loop ⟨[.slot 7 .int],[8,34,35,36,37,38,39,40,41,42,43,44,45,46,47,48,49,50,51,52,53],[],[]⟩ 0 (.seq (.seq (rg [om 34 7,oq 35 (.fa 2 2),oq 36 (.load none 35),oq 37 (.len false 36),oq 38 (.bin .int .lss 34 37)]) (.cond 38 (.skip) (.exit 0))) (.seq (.block 1 (.seq (.region [oq 41 (.fa 2 2),od 42 (.load none 41) [0],om 43 7,od 44 (.ia 1 42 43) [1,2],od 45 (.load none 44) [3],oq 46 (.fa 2 3),od 47 (.load none 46) [5],om 48 7,od 49 (.ia 1 47 48) [6,7],od 50 (.load none 49) [8],od 51 (.call false [] 24 [45,50]) [4,9],od 8 (.mov 51) [10,10,0,1,2,3,4,5,6,7,8,9,10]] [] true) (.seq (rg [om 52 8,oq 53 (.un .not 52)]) (.cond 53 (.seq (rg [om 4 (cb false)]) (.ret)) (.skip))))) (rg [om 39 7,oq 40 (.bin .int .add 39 (ci 1)),om 7 40]))))) (.seq (rg [om 4 (cb true)]) (.ret)))))) 
def tf379:TFunc:=⟨2,54,[.tmp 4],false,tc379,[]⟩
def zeZ (a0:Grid) (a1:Grid) (x4:Int):Option (LR Int Bool) :=
 br (decide (x4 < ((List.length (Grid.cells a0):Nat):Int)))
 (bno (zn (Grid.cells a0) x4) fun y5 =>
 bno (zn (Grid.cells a1) x4) fun y6 =>
 bno (F24 y5 y6) fun y7 =>
 br (!y7)
 (jB (some false))
 (nxO (some (wi (x4+(1:Int))))))
 (dnO (some x4))
def S379 (a0:Grid) (a1:Grid):Option Bool :=
 bno (F104 (Grid.rows a0) (Grid.rows a1)) fun y1 =>
 bno (F104 (Grid.cols a0) (Grid.cols a1)) fun y2 =>
 jn (σ:=Bool) (α:=Bool) (br (!y1)
 (zB (some true))
 (br (!y2)
 (zB (some true))
 (zB (some (decide (¬ ((List.length (Grid.cells a0):Nat):Int)=((List.length (Grid.cells a1):Nat):Int))))))) fun x3 =>
 br x3
 (some false)
 (lp (zeZ F24 a0 a1) (0:Int) fun x8 =>
 some true)
def P379:=S379 P104 P24
def k379:CSpec:=⟨379,[(.st .grid),(.st .grid)],.bool,fun x=>P379 x.1 x.2,false,[]⟩
theorem r379 {S:Seat} (h:Ok1 S 379 tf379):RtF S [k104,k24] (Rt S k379):=okr h rfl fun x=>by kernel_rfl
def tc391:TCode:=.seq (rg [oq 3 (.box 0),om 6 cn,om 7 (cb false)]) (.seq (.seq (.regionJ ⟨[.slot 19 .bool],[11,12,13,14,15,16,17,18],[],[]⟩ [om 11 1,oq 12 (.bin .int .lss 11 (ci 0)),om 13 12,og 14 (.mov 1) 13 false [],og 15 (.fa 0 3) 13 false [],og 16 (.load none 15) 13 false [],og 17 (.len false 16) 13 false [],og 18 (.bin .int .geq 14 17) 13 false [],oq 19 (.pick 13 (cb true) 18)] [] false) (.cond 19 (.seq (rg [om 6 cn,om 7 (cb false)]) (.ret)) (.skip))) (.seq (rg [om 8 cn]) (.seq (.seq (rg [om 20 2,oq 21 (.len false 20),om 22 (ci 0)]) (.loop ⟨[.row 8 51 .str,.slot 22 .int],[10,23,24,25,26,27,28,29,30,31,32,33,34,35,36,37,38,39,40,41,42,43,44,45,46,47,48,49,50,51,52],[50],[]⟩ 0 (.seq (rg [oq 23 (.bin .int .lss 22 21)]) (.seq (.cond 23 (.skip) (.exit 0)) (.seq (.block 1 (.seq (rg [oq 24 (.ia 1 20 22),oq 25 (.load none 24),om 10 25]) (.seq (.seq (.regionJ ⟨[.slot 38 .bool],[26,27,28,29,30,31,32,33,34,35,36,37],[],[]⟩ [om 26 10,oq 27 (.bin .int .lss 26 (ci 0)),om 28 27,og 29 (.mov 10) 28 false [],og 30 (.fa 0 3) 28 false [],og 31 (.load none 30) 28 false [],og 32 (.mov 1) 28 false [],og 33 (.ia 3 31 32) 28 false [],og 34 (.fa 2 33) 28 false [],og 35 (.load none 34) 28 false [],og 36 (.len false 35) 28 false [],og 37 (.bin .int .geq 29 36) 28 false [],oq 38 (.pick 28 (cb true) 37)] [] false) (.cond 38 (.seq (rg [om 6 cn,om 7 (cb false)]) (.ret)) (.skip))) (.region [om 39 8,oq 40 (.fa 0 3),oq 41 (.load none 40),om 42 1,oq 43 (.ia 3 41 42),oq 44 (.fa 2 43),oq 45 (.load none 44),om 46 10,oq 47 (.ia 4 45 46),oq 48 (.fa 0 47),oq 49 (.load none 48),oq 50 (.bslice false 1 [.string ⟨#[]⟩] 1 [(0,49)]),oq 51 (.app 1 39 50),om 8 51] [.int,.int,.int,.int,.int,.int,.int,.int,.int,.int,.int,.str,.str] false)))) (rg [oq 52 (.bin .int .add 22 (ci 1)),om 22 52])))))) (.seq (rg [om 53 8,om 6 53,om 7 (cb true)]) (.ret))))) 
def tf391:TFunc:=⟨3,54,[.tmp 6,.tmp 7],false,tc391,[]⟩
def S391_L1 (a0:LD) (a1:Int) (a2:LI) (x2:((List ByteArray)×Int)):Option (LR ((List ByteArray)×Int) ((List ByteArray)×Bool)) :=
 br (decide (x2.2 < ((List.length a2:Nat):Int)))
 (bno (zn a2 x2.2) fun y3 =>
 jn (σ:=Bool) (α:=(LR ((List ByteArray)×Int) ((List ByteArray)×Bool))) (br (decide (y3 < (0:Int)))
 (zB (some true))
 (bno (zn a0 a1) fun y4 =>
 zB (some (decide (((List.length (Dim.members y4):Nat):Int)<=y3))))) fun x5 =>
 br x5
 (jB (some (([]:List ByteArray),false)))
 (bno (zn a0 a1) fun y6 =>
 bno (zn (Dim.members y6) y3) fun y7 =>
 ck (decide (List.length x2.1+List.length ([Member.name y7]:List ByteArray)<=zF)) <|
 nxO (some (x2.1++([Member.name y7]:List ByteArray),wi (x2.2+(1:Int))))))
 (dnO (some (x2.1,x2.2)))
def S391 (a0:LD) (a1:Int) (a2:LI):Option ((List ByteArray)×Bool) :=
 jn (σ:=Bool) (α:=((List ByteArray)×Bool)) (br (decide (a1 < (0:Int)))
 (zB (some true))
 (zB (some (decide (((List.length a0:Nat):Int)<=a1))))) fun x1 =>
 br x1
 (some (([]:List ByteArray),false))
 (lp (S391_L1 a0 a1 a2) (([]:List ByteArray),(0:Int)) fun x8 =>
 some (x8.1,true))
def P391:=S391
def k391:CSpec:=⟨391,[(.st .outl),.int,(.sl .int)],(.tp [(.sl .str),.bool]),fun x=>P391 x.1 x.2.1 x.2.2,false,[]⟩
theorem r391 {S:Seat} (h:Ok1 S 391 tf391):RtF S [] (Rt S k391):=okr h rfl fun x=>by kernel_rfl
def tc381:TCode:=.seq (rg [oq 4 (.box 0),oq 5 (.box 1),om 8 cn,om 9 cz]) (.seq (.seq (rg [oq 24 (.load (some 1) 4),oq 25 (.call false [] 51 [24]),om 10 25]) (.seq (rg [om 26 10,oq 27 (.eqn false true 26)]) (.cond 27 (.seq (rg [om 28 10,om 8 cn,om 9 28]) (.ret)) (.skip)))) (.seq (.seq (rg [oq 29 (.load (some 3) 5),oq 30 (.call false [] 378 [29]),om 11 30]) (.seq (rg [om 31 11,oq 32 (.eqn false true 31)]) (.cond 32 (.seq (rg [om 33 11,om 8 cn,om 9 33]) (.ret)) (.skip)))) (.seq (rg [oq 35 (.load (some 1) 4),om 36 2,oq 37 (.fa 0 5),oq 38 (.load none 37),oq 39 (.call true [] 391 [35,36,38]),om 34 39,oq 40 (.ext 34 0),oq 41 (.ext 34 1),om 12 40,om 13 41]) (.seq (rg [oq 43 (.load (some 1) 4),om 44 3,oq 45 (.fa 1 5),oq 46 (.load none 45),oq 47 (.call true [] 391 [43,44,46]),om 42 47,oq 48 (.ext 42 0),oq 49 (.ext 42 1),om 14 48,om 15 49]) (.seq (.seq (.regionJ ⟨[.slot 55 .bool],[50,51,52,53,54],[],[]⟩ [om 50 13,oq 51 (.un .not 50),om 52 51,og 53 (.mov 15) 52 false [],og 54 (.un .not 53) 52 false [],oq 55 (.pick 52 (cb true) 54)] [] false) (.cond 55 (.seq (rg [oq 56 (.ifc 1 (ci 1)),om 8 cn,om 9 56]) (.ret)) (.skip))) (.seq (.region [oq 57 (.bslice false 1 [.string ⟨#[]⟩] 1 [(0,(cs ⟨#[45]⟩))]),om 58 14,oq 59 (.app 1 57 58),oq 60 (.call false [] 154 [59,(cs ⟨#[32]⟩)]),oq 61 (.bslice false 1 [.string ⟨#[]⟩] 1 [(0,60)]),om 16 61] [.str,.int,.str,.int,.str] false) (.seq (.seq (rg [om 62 12,oq 63 (.len false 62),om 64 (ci 0)]) (.loop ⟨[.row 16 61 .str,.slot 64 .int],[17,18,19,21,22,23,65,66,67,68,69,70,71,72,73,74,75,76,77,78,79,80,81,82,83,84,85,86,87,89,90,91,92,93,94,95,96,97,98,99],[21,70,91,97],[]⟩ 0 (.seq (rg [oq 65 (.bin .int .lss 64 63)]) (.seq (.cond 65 (.skip) (.exit 0)) (.seq (.block 1 (.seq (rg [om 66 64,oq 67 (.ia 1 62 64),oq 68 (.load none 67),om 17 66,om 18 68]) (.seq (.region [om 69 18,oq 70 (.bslice false 1 [.string ⟨#[]⟩] 1 [(0,69)]),om 19 70] [.int,.str] false) (.seq (.seq (rg [oq 71 (.fa 2 5),oq 72 (.load none 71),om 73 17,oq 74 (.ia 1 72 73),oq 75 (.load none 74),oq 76 (.len false 75),om 77 (ci 0)]) (.loop ⟨[.row 19 70 .str,.slot 77 .int],[21,22,23,78,79,80,81,82,83,84,85,86,87,89,90,91,92,93],[21,91],[]⟩ 2 (.seq (rg [oq 78 (.bin .int .lss 77 76)]) (.seq (.cond 78 (.skip) (.exit 2)) (.seq (.block 3 (.seq (rg [oq 79 (.ia 2 75 77),oq 80 (.load (some 2) 79),oq 21 (.alloc [.int .i64 0,.int .i64 0]),on (.store 2 21 80)]) (.seq (rg [oq 82 (.load (some 2) 21),oq 83 (.call false [] 139 [82]),om 81 83,oq 84 (.ext 81 0),oq 85 (.ext 81 1),om 22 84,om 23 85]) (.seq (.seq (rg [om 86 23,oq 87 (.eqn false true 86)]) (.cond 87 (.seq (rg [om 88 23,om 8 cn,om 9 88]) (.ret)) (.skip))) (.region [om 89 19,om 90 22,oq 91 (.bslice false 1 [.string ⟨#[]⟩] 1 [(0,90)]),oq 92 (.app 1 89 91),om 19 92] [.int,.int,.str,.str] false))))) (rg [oq 93 (.bin .int .add 77 (ci 1)),om 77 93])))))) (.region [om 94 16,om 95 19,oq 96 (.call false [] 154 [95,(cs ⟨#[32]⟩)]),oq 97 (.bslice false 1 [.string ⟨#[]⟩] 1 [(0,96)]),oq 98 (.app 1 94 97),om 16 98] [.int,.int,.int,.str,.str] false))))) (rg [oq 99 (.bin .int .add 64 (ci 1)),om 64 99])))))) (.seq (rg [om 100 16,om 8 100,om 9 cz]) (.ret))))))))) 
def tf381:TFunc:=⟨4,101,[.tmp 8,.tmp 9],false,tc381,[]⟩
def S381_L1 (y9:LC) (x10:((List ByteArray)×Int)):Option (LR ((List ByteArray)×Int) (LR ((List ByteArray)×Int) ((List ByteArray)×Err))) :=
 br (decide (x10.2 < ((List.length y9:Nat):Int)))
 (bno (zn y9 x10.2) fun y11 =>
 bno (F139 y11) fun y12 =>
 br (!(Err.isNil y12.2))
 (jB (jB (some (([]:List ByteArray),y12.2))))
 (ck (decide (List.length x10.1+List.length ([y12.1]:List ByteArray)<=zF)) <|
 nxO (some (x10.1++([y12.1]:List ByteArray),wi (x10.2+(1:Int))))))
 (dnO (some (x10.1,x10.2)))
def S381_L2 (a1:Grid) (y3:((List ByteArray)×Bool)) (x7:((List ByteArray)×Int)):Option (LR ((List ByteArray)×Int) ((List ByteArray)×Err)) :=
 br (decide (x7.2 < ((List.length y3.1:Nat):Int)))
 (bno (zn y3.1 x7.2) fun y8 =>
 bno (zn (Grid.cells a1) x7.2) fun y9 =>
 lp (S381_L1 F139 y9) (([y8]:List ByteArray),(0:Int)) fun x13 =>
 bno (F154 x13.1 (⟨#[32]⟩:ByteArray)) fun y14 =>
 ck (decide (List.length x7.1+List.length ([y14]:List ByteArray)<=zF)) <|
 nxO (some (x7.1++([y14]:List ByteArray),wi (x7.2+(1:Int)))))
 (dnO (some (x7.1,x7.2)))
def S381 (a0:LD) (a1:Grid) (a2:Int) (a3:Int):Option ((List ByteArray)×Err) :=
 bno (F51 a0) fun y1 =>
 br (!(Err.isNil y1))
 (some (([]:List ByteArray),y1))
 (bno (F378 a1) fun y2 =>
 br (!(Err.isNil y2))
 (some (([]:List ByteArray),y2))
 (bno (F391 a0 a2 (Grid.rows a1)) fun y3 =>
 bno (F391 a0 a3 (Grid.cols a1)) fun y4 =>
 jn (σ:=Bool) (α:=((List ByteArray)×Err)) (br (!y3.2)
 (zB (some true))
 (zB (some (!y4.2)))) fun x5 =>
 br x5
 (some (([]:List ByteArray),Err.no (1:Int)))
 (ck (decide (List.length ([(⟨#[45]⟩:ByteArray)]:List ByteArray)+List.length y4.1<=zF)) <|
 bno (F154 (([(⟨#[45]⟩:ByteArray)]:List ByteArray)++y4.1) (⟨#[32]⟩:ByteArray)) fun y6 =>
 lp (S381_L2 F139 F154 a1 y3) (([y6]:List ByteArray),(0:Int)) fun x15 =>
 some (x15.1,Err.nil))))
theorem s381 (a0:(List Dim)) (a1:Grid) (a2:Int) (a3:Int):tf381.run [⟨139,[(.st .cell)],(.tp [.str,.err]),fun x=>F139 x,false,[]⟩,
 ⟨154,[(.sl .str),.str],.str,fun x=>F154 x.1 x.2,false,[]⟩,
 ⟨378,[(.st .grid)],.err,fun x=>F378 x,false,[]⟩,
 ⟨391,[(.st .outl),.int,(.sl .int)],(.tp [(.sl .str),.bool]),fun x=>F391 x.1 x.2.1 x.2.2,false,[]⟩,
 ⟨51,[(.st .outl)],.err,fun x=>F51 x,false,[]⟩] [(.st .outl),(.st .grid),.int,.int] (.tp [(.sl .str),.err]) (a0,a1,a2,a3)=S381 F139 F154 F378 F391 F51 a0 a1 a2 a3:=by kernel_rfl
end
end
end Ab
