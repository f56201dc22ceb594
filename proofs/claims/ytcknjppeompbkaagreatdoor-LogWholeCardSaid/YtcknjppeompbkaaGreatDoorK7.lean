import Derived.Shelf.Strconv.Itoa3
import Derived.LoopTactic
import Derived.StillTailTactics
import Derived.Test.YtcknjppeompbkaaGreatDoorK9
import Derived.WalkSmall
open List (length_append length_cons length_nil)
open Nat (le_refl)
open Bool (not_eq_true)
set_option linter.all false
set_option maxRecDepth 100000
set_option maxHeartbeats 8000000
section
namespace Ab
open Go
end Ab
end
section
namespace Go.Proofs
open Go.Shelf
def Tryz.laysM171_ren:Go.Shelf.Ren:=⟨fun | 171=>14 | 243=>27 | 246=>44 | 283=>57 | 284=>58 | 285=>59 | 286=>60 | 129=>76 | 317=>75 | 318=>77 | 319=>78 | 320=>79 | 337=>90 | 338=>91 | n=>n,fun | 3=>3 | 9=>9 | 2=>2 | 4=>4 | 171=>112 | 0=>0 | 53=>113 | 37=>52 | 5=>5 | 173=>116 | 212=>145 | 51=>146 | 20=>20 | 213=>147 | 46=>148 | 232=>173 | 233=>174 | n=>n,fun | 17=>1 | 18=>3 | 19=>4 | n=>n⟩
def Tryz.laysM171:Go.Proofs.LaysM.n171 Tryz.prog Tryz.laysM171_ren:={
 mixed:=by kernel_rfl
 f129:=Tryz.func76.trans (congrArg some (by kernel_rfl))
 f171:=Tryz.func14.trans (congrArg some (by kernel_rfl))
 f243:=Tryz.func27.trans (congrArg some (by kernel_rfl))
 f246:=Tryz.func44.trans (congrArg some (by kernel_rfl))
 f283:=Tryz.func57.trans (congrArg some (by kernel_rfl))
 f284:=Tryz.func58.trans (congrArg some (by kernel_rfl))
 f285:=Tryz.func59.trans (congrArg some (by kernel_rfl))
 f286:=Tryz.func60.trans (congrArg some (by kernel_rfl))
 f317:=Tryz.func75.trans (congrArg some (by kernel_rfl))
 f318:=Tryz.func77.trans (congrArg some (by kernel_rfl))
 f319:=Tryz.func78.trans (congrArg some (by kernel_rfl))
 f320:=Tryz.func79.trans (congrArg some (by kernel_rfl))
 f337:=Tryz.func90.trans (congrArg some (by kernel_rfl))
 f338:=Tryz.func91.trans (congrArg some (by kernel_rfl))
 t0:=Tryz.underlying0
 a0:=Tryz.isAgg0
 z0:=Tryz.sizeOf0
 v0:=Tryz.zeroValue0
 t2:=Tryz.underlying2
 a2:=Tryz.isAgg2
 z2:=Tryz.sizeOf2
 v2:=Tryz.zeroValue2
 t3:=Tryz.underlying3
 a3:=Tryz.isAgg3
 z3:=Tryz.sizeOf3
 v3:=Tryz.zeroValue3
 t4:=Tryz.underlying4
 a4:=Tryz.isAgg4
 z4:=Tryz.sizeOf4
 v4:=Tryz.zeroValue4
 t5:=Tryz.underlying5
 a5:=Tryz.isAgg5
 z5:=Tryz.sizeOf5
 v5:=Tryz.zeroValue5
 t9:=Tryz.underlying9
 a9:=Tryz.isAgg9
 z9:=Tryz.sizeOf9
 v9:=Tryz.zeroValue9
 t20:=Tryz.underlying20
 a20:=Tryz.isAgg20
 z20:=Tryz.sizeOf20
 v20:=Tryz.zeroValue20
 t37:=Tryz.underlying52
 a37:=Tryz.isAgg52
 z37:=Tryz.sizeOf52
 v37:=Tryz.zeroValue52
 t46:=Tryz.underlying148
 a46:=Tryz.isAgg148
 z46:=Tryz.sizeOf148
 v46:=Tryz.zeroValue148
 t51:=Tryz.underlying146
 a51:=Tryz.isAgg146
 z51:=Tryz.sizeOf146
 v51:=Tryz.zeroValue146
 t53:=Tryz.underlying113
 a53:=Tryz.isAgg113
 z53:=Tryz.sizeOf113
 v53:=Tryz.zeroValue113
 t171:=Tryz.underlying112
 a171:=Tryz.isAgg112
 z171:=Tryz.sizeOf112
 v171:=Tryz.zeroValue112
 t173:=Tryz.underlying116
 a173:=Tryz.isAgg116
 z173:=Tryz.sizeOf116
 v173:=Tryz.zeroValue116
 t212:=Tryz.underlying145
 a212:=Tryz.isAgg145
 z212:=Tryz.sizeOf145
 v212:=Tryz.zeroValue145
 t213:=Tryz.underlying147
 a213:=Tryz.isAgg147
 z213:=Tryz.sizeOf147
 t232:=Tryz.underlying173
 a232:=Tryz.isAgg173
 z232:=Tryz.sizeOf173
 v232:=Tryz.zeroValue173
 t233:=Tryz.underlying174
 a233:=Tryz.isAgg174
 z233:=Tryz.sizeOf174
 v233:=Tryz.zeroValue174
 g17:=by kernel_rfl
 g18:=by kernel_rfl
 g19:=by kernel_rfl
 i0:=by kernel_rfl
 i2:=by kernel_rfl
 i3:=by kernel_rfl
 i4:=by kernel_rfl
 i5:=by kernel_rfl
 i9:=by kernel_rfl
 i20:=by kernel_rfl
 i37:=by kernel_rfl
 i46:=by kernel_rfl
 i51:=by kernel_rfl
 i53:=by kernel_rfl
 i171:=by kernel_rfl
 i173:=by kernel_rfl
 i212:=by kernel_rfl
 i232:=by kernel_rfl
 i233:=by kernel_rfl
 m17:=by kernel_rfl
 m18:=by kernel_rfl
 m19:=by kernel_rfl }
open Go.RowKit Go.Sort Go.Lib in
def Tryz.strconv_Itoa (n : Int) (h0 : -9223372036854775808 ≤ n) (h1 : n ≤ 9223372036854775807) (w : World) (lW : Lib.TabIs Tryz.prog w "internal/strconv.uint64pow10" .u64 Lib.pow10Tab) :
  Calls Tryz.prog 14 #[.int .i64 n] w fun e w'=>e=.returned (.string ⟨(Lib.itoa n).toArray⟩)∧∃ k os,w'=grow (w.drewN k) os:=Any.strconv_Itoa Tryz.laysM171 n h0 h1 w lW
end Go.Proofs
namespace Go.Proofs.TryzStr
open Go Go.RowKit Ab
def itoa_at (n:Int) (w:World) (h0 : -9223372036854775808<=n) (h1:n<=9223372036854775807) (h:hold w) :
  Calls Tryz.prog 14 #[.int .i64 n] w fun e w'=>e=.returned (.string ⟨(Lib.itoa n).toArray⟩)∧KeepO (fun _=>False) w w' :=
 (Tryz.strconv_Itoa n h0 h1 w h).mono fun e w' ⟨he,k,os,hw⟩=>⟨he,by
  subst hw;exact ⟨rfl,rfl,rfl,by simp[Go.Sort.grow,World.drewN],fun i hi _=>by simp[Go.Sort.grow,World.drewN,Array.getElem?_append_left hi]⟩⟩
end Go.Proofs.TryzStr
end
section
namespace Go.Proofs.TryzRead
open Go Go.RowKit Ab
def atOf (w:World) (rb:Nat):Nat:=match w.cell? ⟨rb,1,none⟩ with
 | some (.int _ n)=>n.toNat
 | _=>0
def jb {rb n1:Nat} {s:ByteArray} {W:World} {a:Nat} {v:Value} {l:List Ab.Node} (h:RD rb n1 s W a v l):atOf W rb=a:=by unfold atOf;rw[h.c1];rfl
def RD.keepO {rb n1:Nat} {s:ByteArray} {W X:World} {a:Nat} {v:Value} {l:List Ab.Node} (h:RD rb n1 s W a v l) (k:KeepO (fun _=>False) W X):RD rb n1 s X a v l :=
 ⟨(k.block rb h.rbs (fun e=>e)).trans h.cell,h.row.kept (row:=none) ⟨k.os,k.tape,k.output,k.size,fun i hi _=>k.block i hi (fun e=>e)⟩ (Classical.em _),h.lt,Nat.le_trans h.size k.size⟩
def zcn {B:Option Nat} {v0 v:Value} {W X Y:World} (h:Stp B v0 W X v) (k:KeepO (fun _=>False) X Y):Stp B v0 W Y v :=
 ⟨k.os.trans h.os,k.tape.trans h.tape,k.output.trans h.output,Nat.le_trans h.size k.size,fun i hi h1 h2=>(k.block i (Nat.lt_of_lt_of_le hi h.size) (fun e=>e)).trans (h.block i hi h1 h2),h.own⟩
def qQ {X Y:World} (k:KeepO (fun _=>False) X Y) {b j:Nat} {u:Value} (h:X.cell? ⟨b,j,none⟩=some u):Y.cell? ⟨b,j,none⟩=some u :=
 (World.cell?_of_block (a:=⟨b,j,none⟩) (k.block b (World.block_lt_of_cell? X _ h) (fun e=>e))).trans h
def zdo (t:ByteArray) (ht:t.size<=1000) (v:Int) (h:Lib.atoiAll t.data.toList=.ok v) (w:World) :
  Calls Tryz.prog 138 #[.string t] w fun e w'=>e=.returned (.tuple #[.int .i64 v,.nilIface])∧KeepO (fun _=>False) w w' :=
 (Tryz.strconv_Atoi_ok t (by omega) v h w).mono fun e w' ⟨he,hw⟩=>⟨he,by
  rcases hw with rfl | ⟨t,rfl⟩
  ·exact .refl _ _
  ·have hb:=Lib.bytesWorld_below w 5 t;exact ⟨hb.os,hb.tape,hb.output,hb.size,fun k hk _=>hb.block k hk⟩⟩
def zfM {rb n1:Nat} {s:ByteArray} {W:World} {a:Nat} {v:Value} {l:List Ab.Node} (h:RD rb n1 s W a v l) (hs:s.size<=1000) (hd:dgB (pk s a)=true) (hl:l.length < 1000) :
  Calls Tryz.prog 134 #[.pointer (some ⟨rb,0,none⟩)] W fun e W'=>∃ v',e=.returned (.int .i64 l.length)∧RD rb n1 s W' (w7 s a 8 a) v' (l++[⟨1,(zgt (s.extract a (w7 s a 8 a))).1,⟨#[]⟩,0,0⟩])∧Stp (some rb) v W W' v':=by
 have c1:=h.c1;have ha:=dg_lt hd
 go_enter Tryz.func134,Tryz.ntmps134
 go_wp2_with fail
 go_loopw [10] (fun _ wr=>∃ (i f:Nat),a<=i∧i+f=a+8∧i<=s.size∧RD rb n1 s wr i v l∧w7 s a f i=w7 s a 8 a∧Stp (some rb) v W wr v) (fun _ wr=>a+8 - atOf wr rb)
 case atStart=>exact ⟨a,8,le_refl _,rfl,by omega,h,rfl,yh _ _ _⟩
 case round =>
  obtain ⟨i,f,hai,hif,fP,hR,hE,hS⟩:=hrel;have q0:=hR.c0;have q1:=hR.c1;have qf:=hR.fr 1;have b0:(0:Int)<=(a:Int):=Int.natCast_nonneg _;have b1:(a:Int)<=(i:Int):=by omega
  have b2:(i:Int)<=(s.size:Int):=by omega
  have b4:(a:Int) < (s.size:Int):=by omega
  have b3:(s.extract a i).size<=1000:=by rw[ByteArray.size_extract];omega
  by_cases eU:dgB (pk s i)=true
  ·by_cases h7:i - a < 7
   ·have h7':(i:Int) - (a:Int) < 7:=by omega
    obtain ⟨f,rfl⟩:∃ f',f=f'+1:=⟨f - 1,by omega⟩;by_cases e:i=a
    ·subst e;have cF:w7 s i (f+1) i=w7 s i f (i+1):=by simp only[w7];rw[if_pos ⟨eU,h7,.inl trivial⟩]
     go_wp2_with (first
      | (go_at_call 123;go_must (refine (zl hR hs fP).mono ?_);rintro e X ⟨rfl,q,rfl⟩)
      | (go_at_call 133;go_must (refine (qc _ _).mono ?_);rintro e X ⟨rfl,rfl⟩))
     go_roundw
     case rel =>
      refine ⟨i+1,f,by omega,by omega,dg_lt eU, ?_,cF.symm.trans hE,qN (zo hS _) (.inr rfl) _⟩;rw[show ((i:Int)+1)=((i+1:Nat):Int) by omega];exact (hR.drewN _).go _
     case measure =>
      have m1:=jb hR;have m2:=jb ((hR.drewN q).go (i+1));rw[show ((i+1:Nat):Int)=(i:Int)+1 by omega] at m2;rw[m1,m2];omega
    ·have e':¬ (i:Int)=(a:Int):=by omega
     obtain ⟨p1,p2⟩:=pk_at ha;by_cases e2:pk s a=48
     ·have nS:((s[a]'ha).toNat:Int)=48:=by have p3:pk s a=(s[a]'ha).toNat:=p2;omega
      have cF:w7 s a (f+1) i=i:=by simp only[w7];rw[if_neg (fun h=>h.2.2.elim e (fun h=>h e2))]
      have eQ:∃ v,Lib.atoiAll (s.extract a i).data.toList=.ok v∧(zgt (s.extract a (w7 s a 8 a))).1=v:=(by obtain ⟨v,hv⟩:=zeF hd;refine ⟨v, ?_,by unfold zgt;rw[hv]⟩;rw[← hE,cF] at hv;exact hv);obtain ⟨z,cj,cU⟩:=eQ
      go_wp2_with (first
       | (go_at_call 123;go_must (refine (zl hR hs fP).mono ?_);rintro e X ⟨rfl,q,rfl⟩)
       | (go_at_call 133;go_must (refine (qc _ _).mono ?_);rintro e X ⟨rfl,rfl⟩))
      go_region_held3 (fun w'=>w'.cell? ⟨rb,0,none⟩=some (.string s)∧w'.cell? ⟨rb,1,none⟩=some (.int .i64 i)) (first | go_keep | (go_split_ands;refine ⟨?_, ?_⟩<;>exact qQ kX (by assumption))) ((go_at_call 138;go_loud (refine (zdo _ b3 z cj _).mono ?_);rintro e X ⟨rfl,kX⟩))
      go_wp2_with (go_at_call 125;go_must (refine (jv (RD.keepO (hR.drewN _) kX) ⟨1,z,⟨#[]⟩,0,0⟩ hl).mono ?_);rintro e Y ⟨v',rfl,hY,sY⟩)
      go_ret;exact ⟨v',rfl,by rw[cU,← hE,cF];exact hY,(zcn (zo hS _) kX).trans sY⟩
     ·have nS:¬ ((s[a]'ha).toNat:Int)=48:=by have p3:pk s a=(s[a]'ha).toNat:=p2;omega
      have g2:(((s[a]'ha).toNat:Int) != 48)=true:=by simpa using nS
      have cF:w7 s a (f+1) i=w7 s a f (i+1):=by simp only[w7];rw[if_pos ⟨eU,h7,.inr e2⟩]
      go_wp2_with (first
       | (go_at_call 123;go_must (refine (zl hR hs fP).mono ?_);rintro e X ⟨rfl,q,rfl⟩)
       | (go_at_call 133;go_must (refine (qc _ _).mono ?_);rintro e X ⟨rfl,rfl⟩))
      go_roundw
      case rel =>
       refine ⟨i+1,f,by omega,by omega,dg_lt eU, ?_,cF.symm.trans hE,qN (zo hS _) (.inr rfl) _⟩;rw[show ((i:Int)+1)=((i+1:Nat):Int) by omega];exact (hR.drewN _).go _
      case measure =>
       have m1:=jb hR;have m2:=jb ((hR.drewN q).go (i+1));rw[show ((i+1:Nat):Int)=(i:Int)+1 by omega] at m2;rw[m1,m2];omega
   ·have h7':¬ (i:Int) - (a:Int) < 7:=by omega
    have cF:w7 s a f i=i:=by
     cases f with
     | zero=>rfl
     | succ f=>simp only[w7];rw[if_neg (fun h=>h7 h.2.1)]
    have eQ:∃ v,Lib.atoiAll (s.extract a i).data.toList=.ok v∧(zgt (s.extract a (w7 s a 8 a))).1=v:=(by obtain ⟨v,hv⟩:=zeF hd;refine ⟨v, ?_,by unfold zgt;rw[hv]⟩;rw[← hE,cF] at hv;exact hv);obtain ⟨z,cj,cU⟩:=eQ
    go_wp2_with (first
     | (go_at_call 123;go_must (refine (zl hR hs fP).mono ?_);rintro e X ⟨rfl,q,rfl⟩)
     | (go_at_call 133;go_must (refine (qc _ _).mono ?_);rintro e X ⟨rfl,rfl⟩))
    go_region_held3 (fun w'=>w'.cell? ⟨rb,0,none⟩=some (.string s)∧w'.cell? ⟨rb,1,none⟩=some (.int .i64 i)) (first | go_keep | (go_split_ands;refine ⟨?_, ?_⟩<;>exact qQ kX (by assumption))) ((go_at_call 138;go_loud (refine (zdo _ b3 z cj _).mono ?_);rintro e X ⟨rfl,kX⟩))
    go_wp2_with (go_at_call 125;go_must (refine (jv (RD.keepO (hR.drewN _) kX) ⟨1,z,⟨#[]⟩,0,0⟩ hl).mono ?_);rintro e Y ⟨v',rfl,hY,sY⟩)
    go_ret;exact ⟨v',rfl,by rw[cU,← hE,cF];exact hY,(zcn (zo hS _) kX).trans sY⟩
  ·rw[not_eq_true] at eU;have cF:w7 s a f i=i:=by
    cases f with
    | zero=>rfl
    | succ f=>simp only[w7];rw[if_neg (by rw[eU];simp)]
   have eQ:∃ v,Lib.atoiAll (s.extract a i).data.toList=.ok v∧(zgt (s.extract a (w7 s a 8 a))).1=v:=(by obtain ⟨v,hv⟩:=zeF hd;refine ⟨v, ?_,by unfold zgt;rw[hv]⟩;rw[← hE,cF] at hv;exact hv);obtain ⟨z,cj,cU⟩:=eQ
   go_wp2_with (first
    | (go_at_call 123;go_must (refine (zl hR hs fP).mono ?_);rintro e X ⟨rfl,q,rfl⟩)
    | (go_at_call 133;go_must (refine (qc _ _).mono ?_);rintro e X ⟨rfl,rfl⟩))
   go_region_held3 (fun w'=>w'.cell? ⟨rb,0,none⟩=some (.string s)∧w'.cell? ⟨rb,1,none⟩=some (.int .i64 i)) (first | go_keep | (go_split_ands;refine ⟨?_, ?_⟩<;>exact qQ kX (by assumption))) ((go_at_call 138;go_loud (refine (zdo _ b3 z cj _).mono ?_);rintro e X ⟨rfl,kX⟩))
   go_wp2_with (go_at_call 125;go_must (refine (jv (RD.keepO (hR.drewN _) kX) ⟨1,z,⟨#[]⟩,0,0⟩ hl).mono ?_);rintro e Y ⟨v',rfl,hY,sY⟩)
   go_ret;exact ⟨v',rfl,by rw[cU,← hE,cF];exact hY,(zcn (zo hS _) kX).trans sY⟩
end Go.Proofs.TryzRead
end
section
namespace Ab
open Go
def zai (n:Nat):Md->Nat->Nat
 | .one,a=>4 * (n - a)+1
 | .more _ _,a=>4 * (n - a)+2
 | .row false,a=>4 * (n - a)+3
 | .row true,a=>4 * (n - a)+4
def w5 (s:ByteArray):∀ (f:Nat) (m:Md) (a:Nat) (l:List Node),a<=s.size->l.length+(s.size - a) < 1000->zai s.size m a<=f->∃ r,rd s f m a l=some r∧∀ i b l',r=.ok i b l'->b<=s.size∧l'.length+(s.size - b)<=l.length+(s.size - a)∧(match m with | .more _ _=>a<=b | _=>a < b)
 | 0,m,a,l,_,_,h=>by
  cases m with
  | one=>simp[zai] at h
  | more lv i=>simp[zai] at h
  | row lv=>cases lv<;>simp[zai] at h
 | f+1,.one,a,l,ha,hl,hf=>by
  simp only[zai] at hf;rw[rd,if_neg (by omega)];by_cases c1:dgB (pk s a)=true
  ·rw[if_pos c1];obtain ⟨h1,h2,h3,h4⟩:=zas s a 8 a;have h5:=h4 ha;have aq:a < w7 s a 8 a:=by
    have:w7 s a 8 a=w7 s a 7 (a+1):=by
     show (if _ then _ else _)=_
     rw[if_pos ⟨c1,by omega,.inl rfl⟩]
    rw[this];exact (zas s a 7 (a+1)).1
   refine ⟨_,rfl, ?_⟩;rintro i b l' h;cases h;simp only[length_append,length_cons,length_nil];exact ⟨h5,by omega,aq⟩
  rw[if_neg c1];by_cases c2:ltB (pk s a)=true
  ·rw[if_pos c2];obtain ⟨h1,h2,h4⟩:=zcD s (s.size+1) a;have h5:=h4 ha;have aq:a < zeH s (s.size+1) a:=by
    have:zeH s (s.size+1) a=zeH s s.size (a+1):=by
     show (if _ then _ else _)=_
     rw[if_pos c2]
    rw[this];exact (zcD s s.size (a+1)).1
   refine ⟨_,rfl, ?_⟩;rintro i b l' h;cases h;simp only[length_append,length_cons,length_nil];exact ⟨h5,by omega,aq⟩
  rw[if_neg c2];by_cases c3:pk s a≠40
  ·rw[if_pos c3];exact ⟨_,rfl,by rintro i b l' h;cases h⟩
  rw[if_neg c3];have aq:=zey (s:=s) (j:=a) (by omega);obtain ⟨r,e,h⟩:=w5 s f (.row true) (a+1) l (by omega) (by omega) (by simp only[zai];omega);rw[e];cases r with
  | bad b=>exact ⟨_,rfl,by rintro i b l' h;cases h⟩
  | ok i b l' =>
   obtain ⟨h1,h2,h3⟩:=h i b l' rfl;simp only at h3 ⊢;by_cases c4:pk s b≠41
   ·rw[if_pos c4];exact ⟨_,rfl,by rintro i b l' h;cases h⟩
   ·rw[if_neg c4];have hb:=zey (s:=s) (j:=b) (by omega);refine ⟨_,rfl, ?_⟩;rintro i b l' h;cases h;exact ⟨by omega,by omega,by omega⟩
 | f+1,.row lv,a,l,ha,hl,hf=>by
  have mM:zai s.size (zdN lv) a<=f:=(by cases lv<;>simp only[zai,zdN] at hf ⊢<;>simp[zai]<;>omega);have kW:∀ i b,a<=b->zai s.size (.more lv i) b<=f:=(by intro i b h;cases lv<;>simp only[zai] at hf ⊢<;>omega);obtain ⟨r,e,h⟩:=w5 s f (zdN lv) a l ha hl mM;rw[rd,e];cases r with
  | bad b=>exact ⟨_,rfl,by rintro i b l' h;cases h⟩
  | ok i b l' =>obtain ⟨h1,h2,h3⟩:=h i b l' rfl;have h3:a < b:=(by cases lv<;>exact h3);obtain ⟨r,e,h⟩:=w5 s f (.more lv i) b l' h1 (by omega) (kW i b (by omega));refine ⟨r,e,fun i' b' l2 hr => ?_⟩;obtain ⟨q1,q2,q3⟩:=h i' b' l2 hr;simp only at q3 ⊢;exact ⟨q1,by omega,by omega⟩
 | f+1,.more lv j,a,l,ha,hl,hf=>by
  simp only[zai] at hf;rw[rd];by_cases c:dG lv (pk s a)=false
  ·rw[if_pos c];refine ⟨_,rfl, ?_⟩;rintro i b l' h;cases h;exact ⟨ha,le_refl _,le_refl _⟩
  ·rw[if_neg c];have aq:a < s.size:=(by refine zey (s:=s) (j:=a) fun e=>c ?_;rw[e];cases lv<;>rfl);have mM:zai s.size (zdN lv) (a+1)<=f:=(by cases lv<;>simp[zai,zdN]<;>omega);obtain ⟨r,e,h⟩:=w5 s f (zdN lv) (a+1) l (by omega) (by omega) mM;rw[e];cases r with
   | bad b=>exact ⟨_,rfl,by rintro i b l' h;cases h⟩
   | ok i b l' =>obtain ⟨h1,h2,h3⟩:=h i b l' rfl;have h3:a+1 < b:=(by cases lv<;>exact h3);simp only;rw[if_neg (by omega)];obtain ⟨r,e,h⟩:=w5 s f (.more lv l'.length) b (l'++[⟨opC (pk s a),0,⟨#[]⟩,j,i⟩]) h1 (by simp only[length_append,length_cons,length_nil];omega) (by simp only[zai];omega);refine ⟨r,e,fun i' b' l2 hr => ?_⟩;obtain ⟨q1,q2,q3⟩:=h i' b' l2 hr;simp only[length_append,length_cons,length_nil] at q2 q3 ⊢;exact ⟨q1,by omega,by omega⟩
def ziT {s:ByteArray} (h:s.size<=100):∃ r,readS s=some r:=by obtain ⟨r,e,_⟩:=w5 s 404 (.row true) 0 [] (Nat.zero_le _) (by simp;omega) (by simp only[zai];omega);exact ⟨r,e⟩
section
variable {s:ByteArray} {a b i:Nat} {l l':List Node} {r:PR} {lv:Bool}
end
end Ab
end
section
namespace Go.Proofs.TryzRead
open Go Go.RowKit Ab
def PostR (rb n1:Nat) (s:ByteArray) (W:World) (v:Value) (r:PR) (e:Ending) (W':World):Prop :=
 match r with
 | .ok i a l=>∃ v',e=.returned (.int .i64 i)∧RD rb n1 s W' a v' l∧a<=s.size∧Stp (some rb) v W W' v'
 | .bad a=>∃ v',e=.panicked [{ v:=.iface 179 (.agg #[.int .i64 a]),recovered:=false }]∧Stp (some rb) v W W' v'
def zdx (rb n1:Nat) (s:ByteArray) (id:FuncId) (f:Nat) (m:Md):Prop:=∀ (W:World) (a:Nat) (v:Value) (l:List Ab.Node) (r:PR),rd s f m a l=some r->RD rb n1 s W a v l->a<=s.size ->
 Calls Tryz.prog id #[.pointer (some ⟨rb,0,none⟩)] W (PostR rb n1 s W v r)
def one_name {rb n1:Nat} {s:ByteArray} {W:World} {a:Nat} {v:Value} {l:List Ab.Node} (h:RD rb n1 s W a v l) (hs:s.size<=1000) (hd:dgB (pk s a)=false) (aq:ltB (pk s a)=true) (hl:l.length < 1000) :
  Calls Tryz.prog 126 #[.pointer (some ⟨rb,0,none⟩)] W fun e W'=>∃ v',e=.returned (.int .i64 l.length)∧RD rb n1 s W' (zeH s (s.size+1) a) v' (l++[⟨2,0,s.extract a (zeH s (s.size+1) a),0,0⟩])∧Stp (some rb) v W W' v':=by
 have c1:=h.c1;have ha:=lt_lt aq;have cR:a<=s.size:=by omega
 go_enter Tryz.func126,Tryz.ntmps126
 go_wp2_with (first
  | (go_at_call 123;go_must (refine (zl h hs cR).mono ?_);rintro e X ⟨rfl,q,rfl⟩)
  | (go_at_call 133;go_must (refine (qc _ _).mono ?_);rintro e X ⟨rfl,rfl⟩)
  | (go_at_call 135;go_must (refine (qG _ _).mono ?_);rintro e X ⟨rfl,rfl⟩))
 go_loopw [20] (fun _ wr=>∃ (i f:Nat),a<=i∧i+f=a+(s.size+1)∧i<=s.size∧RD rb n1 s wr i v l∧zeH s f i=zeH s (s.size+1) a∧Stp (some rb) v W wr v) (fun _ wr=>a+(s.size+1) - atOf wr rb)
 case atStart=>exact ⟨a,s.size+1,le_refl _,rfl,cR,h.drewN _,rfl,zo (yh _ _ _) _⟩
 case round =>
  obtain ⟨i,f,hai,hif,fP,hR,hE,hS⟩:=hrel;have q0:=hR.c0;have q1:=hR.c1;have qf:=hR.fr 1;obtain ⟨f,rfl⟩:∃ f',f=f'+1:=⟨f - 1,by omega⟩;by_cases eU:ltB (pk s i)=true
  ·have cF:zeH s (f+1) i=zeH s f (i+1):=by simp only[zeH];rw[if_pos eU]
   go_wp2_with (first
    | (go_at_call 123;go_must (refine (zl hR hs fP).mono ?_);rintro e X ⟨rfl,q,rfl⟩)
    | (go_at_call 135;go_must (refine (qG _ _).mono ?_);rintro e X ⟨rfl,rfl⟩))
   go_roundw
   case rel =>
    refine ⟨i+1,f,by omega,by omega,lt_lt eU, ?_,cF.symm.trans hE,qN (zo hS _) (.inr rfl) _⟩;rw[show ((i:Int)+1)=((i+1:Nat):Int) by omega];exact (hR.drewN _).go _
   case measure =>
    have m1:=jb hR;have m2:=jb ((hR.drewN q).go (i+1));rw[show ((i+1:Nat):Int)=(i:Int)+1 by omega] at m2;rw[m1,m2];omega
  ·rw[not_eq_true] at eU;have cF:zeH s (f+1) i=i:=by simp only[zeH];rw[if_neg (by rw[eU];simp)]
   have b0:(0:Int)<=(a:Int):=Int.natCast_nonneg _;have b1:(a:Int)<=(i:Int):=by omega
   have b2:(i:Int)<=(s.size:Int):=by omega
   go_wp2_with (first
    | (go_at_call 123;go_must (refine (zl hR hs fP).mono ?_);rintro e X ⟨rfl,q,rfl⟩)
    | (go_at_call 135;go_must (refine (qG _ _).mono ?_);rintro e X ⟨rfl,rfl⟩))
   go_region_held3 (fun w'=>w'.cell? ⟨rb,0,none⟩=some (.string s)∧w'.cell? ⟨rb,1,none⟩=some (.int .i64 i)) (first | go_keep | exact ⟨hY.c0,hY.c1⟩) ((go_at_call 125;go_loud (refine (jv (hR.drewN _) ⟨2,0,s.extract a i,0,0⟩ hl).mono ?_);rintro e Y ⟨v',rfl,hY,sY⟩))
   go_wp2
   go_ret;exact ⟨v',rfl,by rw[← hE,cF];exact hY,(zo hS _).trans sY⟩
def one_bad {rb n1:Nat} {s:ByteArray} {W:World} {a:Nat} {v:Value} {l:List Ab.Node} (h:RD rb n1 s W a v l) (hs:s.size<=1000) (ha:a<=s.size) (hd:dgB (pk s a)=false) (aq:ltB (pk s a)=false) (iq:pk s a≠40) :
  Calls Tryz.prog 126 #[.pointer (some ⟨rb,0,none⟩)] W (PostR rb n1 s W v (.bad a)):=by
 have c1:=h.c1;have g1:¬ ((pk s a:Nat):Int)=40:=by omega
 have g2:(((pk s a:Nat):Int) != 40)=true:=by simpa using g1
 go_enter Tryz.func126,Tryz.ntmps126
 go_wp2_with (first
  | (go_at_call 123;go_must (refine (zl h hs ha).mono ?_);rintro e X ⟨rfl,q,rfl⟩)
  | (go_at_call 133;go_must (refine (qc _ _).mono ?_);rintro e X ⟨rfl,rfl⟩)
  | (go_at_call 135;go_must (refine (qG _ _).mono ?_);rintro e X ⟨rfl,rfl⟩))
 exact ⟨rfl,v,rfl,zo (yh _ _ _) _⟩
def one_calls {rb n1:Nat} {s:ByteArray} (hs:s.size<=1000) {f:Nat} (gb:zdx rb n1 s 105 f (.row true)):zdx rb n1 s 126 (f+1) .one:=by
 intro W a v l r hr h ha;simp only[rd] at hr;split at hr
 ·cases hr
 rename_i hl;have hl:l.length < 1000:=by omega
 by_cases hd:dgB (pk s a)=true
 ·rw[if_pos hd] at hr;cases hr;have c1:=h.c1
  go_enter Tryz.func126,Tryz.ntmps126
  go_wp2_with (first
   | (go_at_call 123;go_must (refine (zl h hs ha).mono ?_);rintro e X ⟨rfl,q,rfl⟩)
   | (go_at_call 133;go_must (refine (qc _ _).mono ?_);rintro e X ⟨rfl,rfl⟩)
   | (go_at_call 134;go_must (refine (zfM (h.drewN _) hs hd hl).mono ?_);rintro e Y ⟨v',rfl,hY,sY⟩))
  go_ret;exact ⟨v',rfl,hY,(zas s a 8 a).2.2.2 ha,(zo (yh _ _ _) _).trans sY⟩
 rw[if_neg hd] at hr;rw[not_eq_true] at hd;by_cases aq:ltB (pk s a)=true
 ·rw[if_pos aq] at hr;cases hr;refine (one_name h hs hd aq hl).mono ?_;rintro e Y ⟨v',rfl,hY,sY⟩;exact ⟨v',rfl,hY,(zcD s (s.size+1) a).2.2 ha,sY⟩
 rw[if_neg aq] at hr;rw[not_eq_true] at aq;by_cases iq:pk s a≠40
 ·rw[if_pos iq] at hr;cases hr;exact one_bad h hs ha hd aq iq
 rw[if_neg iq] at hr;have iq:pk s a=40:=Decidable.byContradiction iq;have c1:=h.c1;have cf:=h.fr 1;have nm:a+1<=s.size:=zey (by omega);have hE:(match rd s f (.row true) (a+1) l with | some (.ok i a l')=>if pk s a≠41 then some (PR.bad a) else some (.ok i (a+1) l') | r=>r)=some r:=hr
 cases aJ:rd s f (.row true) (a+1) l with
 | none=>rw[aJ] at hE;cases hE
 | some r0 =>
  rw[aJ] at hE;cases r0 with
  | bad b =>
   cases hE
   go_enter Tryz.func126,Tryz.ntmps126
   go_wp2_with (first
    | (go_at_call 123;go_must (refine (zl h hs ha).mono ?_);rintro e X ⟨rfl,q,rfl⟩)
    | (go_at_call 133;go_must (refine (qc _ _).mono ?_);rintro e X ⟨rfl,rfl⟩)
    | (go_at_call 135;go_must (refine (qG _ _).mono ?_);rintro e X ⟨rfl,rfl⟩)
    | (go_at_call 105;go_must (refine (gb _ _ _ _ _ aJ ((h.drewN _).go (a+1)) nm).mono ?_);rintro e Y ⟨v',rfl,sY⟩))
   exact ⟨rfl,v',rfl,(qN (p:=⟨rb,1,none⟩) (zo (yh _ _ _) _) (.inr rfl) _).trans sY⟩
  | ok i b l' =>
   simp only at hE;by_cases kx:pk s b≠41
   ·rw[if_pos kx] at hE;cases hE;have g1:¬ ((pk s b:Nat):Int)=41:=by omega
    have g2:(((pk s b:Nat):Int) != 41)=true:=by simpa using g1
    go_enter Tryz.func126,Tryz.ntmps126
    go_wp2_with (first
     | (go_at_call 123;refine (zl hY hs hb).mono ?_;rintro e Z ⟨rfl,q2,rfl⟩)
     | (go_at_call 123;go_must (refine (zl h hs ha).mono ?_);rintro e X ⟨rfl,q,rfl⟩)
     | (go_at_call 133;go_must (refine (qc _ _).mono ?_);rintro e X ⟨rfl,rfl⟩)
     | (go_at_call 135;go_must (refine (qG _ _).mono ?_);rintro e X ⟨rfl,rfl⟩)
     | (go_at_call 105;go_must (refine (gb _ _ _ _ _ aJ ((h.drewN _).go (a+1)) nm).mono ?_);rintro e Y ⟨v',rfl,hY,hb,sY⟩;have y1:=hY.c1;have yf:=hY.fr 1))
    exact ⟨rfl,v',rfl,zo ((qN (p:=⟨rb,1,none⟩) (zo (yh _ _ _) _) (.inr rfl) _).trans sY) _⟩
   ·rw[if_neg kx] at hE;cases hE;have g1:pk s b=41:=Decidable.byContradiction kx
    go_enter Tryz.func126,Tryz.ntmps126
    go_wp2_with (first
     | (go_at_call 123;refine (zl hY hs hb).mono ?_;rintro e Z ⟨rfl,q2,rfl⟩)
     | (go_at_call 123;go_must (refine (zl h hs ha).mono ?_);rintro e X ⟨rfl,q,rfl⟩)
     | (go_at_call 133;go_must (refine (qc _ _).mono ?_);rintro e X ⟨rfl,rfl⟩)
     | (go_at_call 135;go_must (refine (qG _ _).mono ?_);rintro e X ⟨rfl,rfl⟩)
     | (go_at_call 105;go_must (refine (gb _ _ _ _ _ aJ ((h.drewN _).go (a+1)) nm).mono ?_);rintro e Y ⟨v',rfl,hY,hb,sY⟩;have y1:=hY.c1;have yf:=hY.fr 1))
    go_ret;refine ⟨v',rfl, ?_,zey (by omega),qN (zo ((qN (p:=⟨rb,1,none⟩) (zo (yh _ _ _) _) (.inr rfl) _).trans sY) _) (.inr rfl) _⟩;exact (hY.drewN _).go (b+1)
end Go.Proofs.TryzRead
end
