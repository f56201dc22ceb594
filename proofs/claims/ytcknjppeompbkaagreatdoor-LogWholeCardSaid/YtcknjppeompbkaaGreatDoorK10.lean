import Derived.Lib.Split
import Derived.Lib.SplitLaws
import Derived.Lib.Join
import Derived.Shelf.Sort.Plain
import Derived.Shelf.Slices.In.SortNone
import Derived.Shelf.Slices.CompactI
import Derived.Test.YtcknjppeompbkaaGreatDoorK1
set_option linter.all false
noncomputable section
section
namespace Ab
open Go Go.RowKit
def P247 (s:ByteArray):Option (List Node×Int×Int) :=
 if 100 < s.size then some ([],0,4) else
 match rd s 404 (.row true) 0 [] with
 | none=>none
 | some (.bad b)=>some ([],(b:Int),2)
 | some (.ok i b l)=>if b < s.size then some ([],(b:Int),2) else bno (P240 l) fun e=>some (if e=0 then l else [],0,e)
end Ab
end
section
namespace Ab
open Go Go.RowKit
def ed (xs:List ByteArray) (sep:ByteArray):ByteArray:=⟨(Lib.join (xs.map (·.data.toList)) sep.data.toList).toArray⟩
def JoinAt (S:Seat) (id:Nat):Prop:=∀ g,qh g S.fns=some id ->
 (∀ (a:Option Addr) (c:Nat) (sep:ByteArray) (w:World),Calls S.P g #[.slice a 0 c,.string sep] w fun e w'=>e=.returned (.string ⟨#[]⟩)∧w'=w) ∧
 ∀ (bk o c:Nat) (xs:List ByteArray) (sep:ByteArray) (w:World),(∀ (j:Nat) x,xs[j]? = some x->w.cell? ⟨bk,o+j,none⟩=some (.string x))->bk < w.heap.size->xs.length<=140737488355328->xs.length<=c->(ed xs sep).size<=140737488355328 ->
  Calls S.P g #[.slice (some ⟨bk,o,none⟩) xs.length c,.string sep] w fun e w'=>e=.returned (.string (ed xs sep))∧KeepO (fun _=>False) w w'
def P154 (xs:List ByteArray) (sep:ByteArray):Option ByteArray:=ck (decide (xs.length<=140737488355328∧(ed xs sep).size<=140737488355328)) (some (ed xs sep))
def k154:CSpec:=⟨154,[.sl .str,.str],.str,fun x=>P154 x.1 x.2,false,[]⟩
def r154 {S:Seat} (h:JoinAt S 154):Rt S k154:=fun (x:List ByteArray×ByteArray) (y:ByteArray) hy=>by
 obtain ⟨xs,sep⟩:=x;obtain ⟨h1,h2⟩:=qg (show P154 xs sep=some y from hy);obtain ⟨h0,h1⟩:=of_decide_eq_true h1;obtain rfl:=Option.some.inj h2;intro g hg;show wo S g [.sl 1 (xs.map fun x=>[AV.v (.string x)]),.v (.string sep)] (.v (.string _)) [];refine w4 (fun A w vs hl hA ha => ?_) (by simp[zm]);obtain ⟨x0,x1,rfl⟩:∃ x0 x1,vs=#[x0,x1]:=by
  obtain ⟨l⟩:=vs
  match l,hl with
  | [x0,x1],_=>exact ⟨x0,x1,rfl⟩
 have hr:VR0 S A w (.sl 1 (xs.map fun x=>[AV.v (.string x)])) x0:=ha 0 _ rfl;obtain rfl:x1=.string sep:=VR.v_inv (σ:=fun _=>none) (.of0 (ha 1 _ rfl));obtain ⟨hn,hm⟩:=h g hg;have fin:∀ (e:Ending) (w':World),e=.returned (.string (ed xs sep))∧KeepO (fun _=>False) w w'->∃ v,e=.returned v∧KeepO (fun _=>False) w w'∧zgD S A w w' (.v (.string (ed xs sep))) v:=(by rintro e w' ⟨rfl,hk⟩;exact ⟨_,rfl,hk,fun _=>none,by simp,by simp,rfl,.v _⟩);generalize b9:(xs.map fun x=>[AV.v (.string x)])=es at hr;cases hr with
 | sl hb hlen hz aV aY hval =>
  rename_i b o cap u;have el:es.length=xs.length:=by rw[← b9];simp
  rw[el] at hlen aV ⊢;refine (hm b o cap xs sep w (fun j x hj => ?_) (hA.1 _ hb) h0 hlen h1).mono fin;have bF:j < xs.length:=(List.getElem?_eq_some_iff.1 hj).1;rw[aV j (by omega)];have:=hval j [AV.v (.string x)] 0 (.v (.string x)) (by rw[← b9];simp[hj]) rfl;rw[Nat.mul_one,Nat.add_zero] at this;rw[VR.v_inv (σ:=fun _=>none) (.of0 this)]
 | slnil _ =>
  have:xs=[]:=by cases xs with | nil=>rfl | cons a l=>simp at b9
  subst this;exact (hn none 0 sep w).mono fun e w' ⟨he,hw⟩=>fin e w' ⟨he,hw ▸ .refl _ _⟩
 | slemp _ a cap =>
  have:xs=[]:=by cases xs with | nil=>rfl | cons a l=>simp at b9
  subst this;exact (hn (some a) cap sep w).mono fun e w' ⟨he,hw⟩=>fin e w' ⟨he,hw ▸ .refl _ _⟩
end Ab
end
section
namespace Go.Proofs
open Go.Shelf
def Tryz.laysNm220_ren:Go.Shelf.Ren:=⟨fun | 20=>97 | n=>n,fun | 22=>41 | 3=>3 | 4=>4 | 0=>0 | n=>n,fun | n=>n⟩
def Tryz.laysNm220:Go.Proofs.Lays2.n20 Tryz.prog Tryz.laysNm220_ren:={
 mixed:=by kernel_rfl
 f20:=Tryz.func97.trans (congrArg some (by kernel_rfl))
 t0:=Tryz.underlying0
 a0:=Tryz.isAgg0
 z0:=Tryz.sizeOf0
 v0:=Tryz.zeroValue0
 t3:=Tryz.underlying3
 a3:=Tryz.isAgg3
 z3:=Tryz.sizeOf3
 v3:=Tryz.zeroValue3
 t4:=Tryz.underlying4
 a4:=Tryz.isAgg4
 z4:=Tryz.sizeOf4
 v4:=Tryz.zeroValue4
 t22:=Tryz.underlying41
 a22:=Tryz.isAgg41
 z22:=Tryz.sizeOf41
 v22:=Tryz.zeroValue41
 i3:=by kernel_rfl }
open Go.RowKit Go.Lib Go.Sort in
def Tryz.slices_Compact_int (blk off cap:Nat) (zs:List Int) (w:World) (hH:Holds (Value.int .i64) w blk off zs.toArray) (aG:zs.length<=9223372036854775807) (ba:zs.length<=cap) :
  Calls Tryz.prog 97 #[.slice (some ⟨blk,off,none⟩) zs.length cap] w fun e w'=>e=.returned (.slice (some ⟨blk,off,none⟩) (Lib.compact zs).length cap)∧∃ q,w'=putRow (Value.int .i64) (Sort.ahead w q) blk off (Lib.compact zs++List.replicate (zs.length - (Lib.compact zs).length) 0).toArray:=Any.slices_Compact_int Tryz.laysNm220 blk off cap zs w hH aG ba
def Tryz.lays189_ren:Go.Shelf.Ren:=⟨fun | 189=>96 | 125=>108 | 257=>107 | 128=>122 | 129=>76 | 294=>113 | 295=>114 | 296=>115 | 297=>116 | 298=>117 | 299=>118 | 216=>119 | 300=>120 | 301=>121 | 328=>127 | 329=>128 | 330=>129 | 331=>130 | 332=>131 | 215=>89 | 343=>136 | n=>n,fun | 28=>41 | 3=>3 | 46=>148 | 0=>0 | 51=>146 | 53=>113 | 4=>4 | 183=>189 | 182=>188 | 131=>95 | 5=>5 | 9=>9 | 218=>197 | 222=>201 | 228=>203 | 229=>204 | n=>n,fun | n=>n⟩
def Tryz.lays189:Go.Proofs.Lays.n189 Tryz.prog Tryz.lays189_ren:={
 mixed:=by kernel_rfl
 f125:=Tryz.func108.trans (congrArg some (by kernel_rfl))
 f128:=Tryz.func122.trans (congrArg some (by kernel_rfl))
 f129:=Tryz.func76.trans (congrArg some (by kernel_rfl))
 f189:=Tryz.func96.trans (congrArg some (by kernel_rfl))
 f215:=Tryz.func89.trans (congrArg some (by kernel_rfl))
 f216:=Tryz.func119.trans (congrArg some (by kernel_rfl))
 f257:=Tryz.func107.trans (congrArg some (by kernel_rfl))
 f294:=Tryz.func113.trans (congrArg some (by kernel_rfl))
 f295:=Tryz.func114.trans (congrArg some (by kernel_rfl))
 f296:=Tryz.func115.trans (congrArg some (by kernel_rfl))
 f297:=Tryz.func116.trans (congrArg some (by kernel_rfl))
 f298:=Tryz.func117.trans (congrArg some (by kernel_rfl))
 f299:=Tryz.func118.trans (congrArg some (by kernel_rfl))
 f300:=Tryz.func120.trans (congrArg some (by kernel_rfl))
 f301:=Tryz.func121.trans (congrArg some (by kernel_rfl))
 f328:=Tryz.func127.trans (congrArg some (by kernel_rfl))
 f329:=Tryz.func128.trans (congrArg some (by kernel_rfl))
 f330:=Tryz.func129.trans (congrArg some (by kernel_rfl))
 f331:=Tryz.func130.trans (congrArg some (by kernel_rfl))
 f332:=Tryz.func131.trans (congrArg some (by kernel_rfl))
 f343:=Tryz.func136.trans (congrArg some (by kernel_rfl))
 t0:=Tryz.underlying0
 a0:=Tryz.isAgg0
 z0:=Tryz.sizeOf0
 v0:=Tryz.zeroValue0
 t3:=Tryz.underlying3
 a3:=Tryz.isAgg3
 z3:=Tryz.sizeOf3
 v3:=Tryz.zeroValue3
 t4:=Tryz.underlying4
 a4:=Tryz.isAgg4
 z4:=Tryz.sizeOf4
 v4:=Tryz.zeroValue4
 t5:=Tryz.underlying5
 a5:=Tryz.isAgg5
 z5:=Tryz.sizeOf5
 v5:=Tryz.zeroValue5
 t9:=Tryz.underlying9
 a9:=Tryz.isAgg9
 z9:=Tryz.sizeOf9
 v9:=Tryz.zeroValue9
 t28:=Tryz.underlying41
 a28:=Tryz.isAgg41
 z28:=Tryz.sizeOf41
 v28:=Tryz.zeroValue41
 t46:=Tryz.underlying148
 a46:=Tryz.isAgg148
 z46:=Tryz.sizeOf148
 v46:=Tryz.zeroValue148
 t51:=Tryz.underlying146
 a51:=Tryz.isAgg146
 z51:=Tryz.sizeOf146
 v51:=Tryz.zeroValue146
 t53:=Tryz.underlying113
 a53:=Tryz.isAgg113
 z53:=Tryz.sizeOf113
 v53:=Tryz.zeroValue113
 t131:=Tryz.underlying95
 a131:=Tryz.isAgg95
 z131:=Tryz.sizeOf95
 v131:=Tryz.zeroValue95
 t182:=Tryz.underlying188
 a182:=Tryz.isAgg188
 z182:=Tryz.sizeOf188
 v182:=Tryz.zeroValue188
 t183:=Tryz.underlying189
 a183:=Tryz.isAgg189
 z183:=Tryz.sizeOf189
 v183:=Tryz.zeroValue189
 t218:=Tryz.underlying197
 a218:=Tryz.isAgg197
 z218:=Tryz.sizeOf197
 v218:=Tryz.zeroValue197
 t222:=Tryz.underlying201
 a222:=Tryz.isAgg201
 z222:=Tryz.sizeOf201
 v222:=Tryz.zeroValue201
 t228:=Tryz.underlying203
 a228:=Tryz.isAgg203
 z228:=Tryz.sizeOf203
 v228:=Tryz.zeroValue203
 t229:=Tryz.underlying204
 a229:=Tryz.isAgg204
 z229:=Tryz.sizeOf204
 v229:=Tryz.zeroValue204 }
open Go.Sort Go.RowKit in
def Tryz.slices_Sort_int (blk off cap:Nat) (zs:List Int) (w:World) (hH:Holds (Value.int .i64) w blk off zs.toArray) (cB:blk < w.heap.size) (aG:zs.length < 4611686018427387904) :
  Calls Tryz.prog 96 #[.slice (some ⟨blk,off,none⟩) zs.length cap] w fun e w' =>
   e=.returned (.tuple #[])∧∃ n os,w'=grow (putRow (Value.int .i64) (Sort.ahead w n) blk off (zs.mergeSort fun x y=>decide (x<=y)).toArray) os:=Any.slices_Sort_int Tryz.lays189 blk off cap zs w hH cB aG
open Go.RowKit Go.Lib Go.Sort in
def Tryz.slices_Compact_int_empty (a:Option Addr) (cap:Nat) (w:World) :
  Calls Tryz.prog 97 #[.slice a 0 cap] w fun e w'=>e=.returned (.slice a 0 cap)∧w'=w:=Any.slices_Compact_int_empty Tryz.laysNm220 a cap w
open Go.RowKit Go.Sort in
def Tryz.slices_Sort_int_none (p:Option Addr) (cap:Nat) (w:World) :
  Calls Tryz.prog 96 #[.slice p 0 cap] w fun e w'=>e=.returned (.tuple #[])∧w'=w:=Any.slices_Sort_int_none Tryz.lays189 p cap w
end Go.Proofs
end
section
namespace Ab
open Go
def sizeN (o:List Dim):Nat:=o.foldr (fun d n=>d.members.length * n) 1
def digs_size (o:List Dim) (hp:∀ d∈o,0 < d.members.length):∀ (q s:Nat),s < sizeN o->digs o (q * sizeN o+s)=((digs o s).1,q):=by
 induction o with
 | nil=>intro q s hs;simp[sizeN] at hs;subst hs;simp[digs,sizeN]
 | cons d r ih =>
  intro q s hs;have eN:∀ x∈r,0 < x.members.length:=fun x hx=>hp x (List.mem_cons_of_mem _ hx);have hd:=hp d List.mem_cons_self;have hS:sizeN (d :: r)=d.members.length * sizeN r:=rfl;have hSr:0 < sizeN r:=by
   cases h:sizeN r with
   | zero=>rw[hS,h] at hs;simp at hs
   | succ=>omega
  rw[hS] at hs ⊢;have aK:s=(s / sizeN r) * sizeN r+s % sizeN r:=by rw[Nat.mul_comm];exact (Nat.div_add_mod s (sizeN r)).symm
  have e8:s % sizeN r < sizeN r:=Nat.mod_lt _ hSr;have oM:s / sizeN r < d.members.length:=Nat.div_lt_of_lt_mul (by rw[Nat.mul_comm];exact hs);have e1:q * (d.members.length * sizeN r)+s=(q * d.members.length+s / sizeN r) * sizeN r+s % sizeN r:=(by rw[Nat.add_mul,Nat.mul_assoc,Nat.add_assoc];omega);have d1:=ih eN (q * d.members.length+s / sizeN r) (s % sizeN r) e8;have d2:=ih eN (s / sizeN r) (s % sizeN r) e8;rw[← e1] at d1;rw[← aK] at d2;simp only[digs,d1,d2];rw[Nat.add_comm (q * d.members.length),Nat.add_mul_mod_self_right,Nat.mod_eq_of_lt oM,Nat.add_mul_div_right _ _ hd,Nat.div_eq_of_lt oM,Nat.zero_add]
end Ab
end
