/-
  The seat's program for the abstract machine, and the contracts of all functions that the law reaches: written by program (genlaw.py).
-/
import Derived.Test.YtcknjppeompbkaaGreatDoorK8
open List (all_eq_true)
set_option linter.all false
namespace Ab.Tryz
open Go Go.Proofs
def fns:List (Nat×Nat):=[(3,413),(4,412),(5,414),(6,403),(7,22),(8,404),(9,92),(10,405),(11,406),(12,349),(13,165),(14,157),(15,133),(16,166),(17,352),(18,409),(19,50),(20,112),(21,407),(22,408),(23,105),(24,72),(25,27),(26,173),(27,168),(28,114),(29,154),(30,320),(31,410),(32,411),(33,68),(34,71),(35,107),(36,79),(37,76),(38,51),(39,58),(40,59),(41,60),(42,61),(44,177),(45,164),(46,14),(47,315),(48,73),(49,77),(50,78),(54,169),(55,44),(56,74),(57,186),(58,187),(59,188),(60,189),(61,174),(62,15),(63,38),(64,39),(65,40),(66,340),(67,80),(69,83),(73,47),(74,81),(75,197),(76,198),(77,199),(78,200),(79,201),(81,41),(82,42),(83,65),(84,355),(85,356),(86,357),(87,303),(88,85),(89,84),(90,205),(91,206),(92,66),(93,67),(94,37),(95,248),(96,213),(97,302),(98,362),(99,363),(100,86),(101,75),(102,63),(103,64),(104,258),(105,259),(106,241),(107,216),(108,217),(109,263),(110,264),(111,251),(112,252),(113,218),(114,219),(115,220),(116,221),(117,222),(118,223),(119,224),(120,225),(121,226),(122,227),(123,275),(124,276),(125,277),(126,278),(127,228),(128,229),(129,230),(130,231),(131,232),(132,191),(133,283),(134,284),(135,285),(136,233),(138,167),(139,175),(140,176),(141,181),(142,182),(143,183),(144,184),(145,185),(146,194),(147,195),(148,196),(149,203),(150,204),(186,207)]
def tys:List (Nat×Nat):=[(67,1),(210,4)]
noncomputable def seat:Seat:={ P:=Tryz.prog,fns,tys,muts:=[(71,[1001]),(77,[1000]),(78,[1000,1002]),(213,[0]),(302,[1000]),(403,[5000]),(404,[4000]),(405,[4000]),(406,[4000]),(408,[4000])],own:=[72,76,79,410],glob:=[(0,Go.Proofs.Tryztold.handle)],more:=[1],hold:=Go.Proofs.TryzStr.hold,holdK:=Go.Proofs.TryzStr.holdK }
def zg:qd seat:=zhx (by kernel_rfl)
def plainS:Plain seat:=⟨fun _ h=>h,fun _=>trivial⟩
def R68:Rt seat k68:=r68 (zt zg Tryz.func33 (by kernel_rfl) (by kernel_rfl))
def R50:Rt seat k50:=r50 (zt zg Tryz.func19 (by kernel_rfl) (by kernel_rfl)) R68
def R22:Rt seat k22:=r22 (zt zg Tryz.func7 (by kernel_rfl) (by kernel_rfl)) R50
def R67:Rt seat k67:=r67 (zt zg Tryz.func93 (by kernel_rfl) (by kernel_rfl))
def R75_67:Rt seat k75_67:=r75_67 (zt zg Tryz.func101 (by kernel_rfl) (by kernel_rfl)) R67
def R66_67:Rt seat k66_67:=r66_67 (zt zg Tryz.func92 (by kernel_rfl) (by kernel_rfl)) R75_67
def R41:Rt seat k41:=r41 (zt zg Tryz.func81 (by kernel_rfl) (by kernel_rfl)) R66_67
def R64:Rt seat k64:=r64 (zt zg Tryz.func103 (by kernel_rfl) (by kernel_rfl))
def R63_64:Rt seat k63_64:=r63_64 (zt zg Tryz.func102 (by kernel_rfl) (by kernel_rfl)) R64
def R37:Rt seat k37:=r37 (zt zg Tryz.func94 (by kernel_rfl) (by kernel_rfl)) R63_64
def R42:Rt seat k42:=r42 (zt zg Tryz.func82 (by kernel_rfl) (by kernel_rfl)) R37 R41
def R15:Rt seat k15:=r15 (zt zg Tryz.func62 (by kernel_rfl) (by kernel_rfl)) R41 R42
def R39:Rt seat k39:=r39 (zt zg Tryz.func64 (by kernel_rfl) (by kernel_rfl))
def R65_39:Rt seat k65_39:=r65_39 (zt zg Tryz.func83 (by kernel_rfl) (by kernel_rfl)) R39
def R38_39:Rt seat k38_39:=r38_39 (zt zg Tryz.func63 (by kernel_rfl) (by kernel_rfl)) R65_39
def R40:Rt seat k40:=r40 (zt zg Tryz.func65 (by kernel_rfl) (by kernel_rfl))
def R14:Rt seat k14:=r14 (zt zg Tryz.func46 (by kernel_rfl) (by kernel_rfl)) R15 R38_39 R40
def o303:ReachAt seat:=fun g hg=>by
 have hall:only 87 303 fns=true:=by kernel_rfl
 have hm:=all_eq_true.1 hall _ (zU _ _ _ hg);have cA:g=87:=by simpa using hm
 subst cA;exact fun n i v W b hR hs hb=>Go.Proofs.TryzReach.reach_calls hR hs hb
def R303:Rt seat k303:=r303 o303
def o251:NodeAt seat:=fun g hg=>by
 have hall:only 111 251 fns=true:=by kernel_rfl
 have hm:=all_eq_true.1 hall _ (zU _ _ _ hg);have cA:g=111:=by simpa using hm
 subst cA;refine ⟨81,67,by kernel_rfl,by kernel_rfl,fun T' hT => ?_,fun l lv k x W hk h6 hN ez=>Go.Proofs.TryzNode.node_calls l lv k x W hk h6 hN ez⟩;have:=zU _ _ _ hT;simpa[seat,tys] using this
def R251:Rt seat k251:=r251 plainS o251 R41
def R252:Rt seat k252:=r252 (zt zg Tryz.func112 (by kernel_rfl) (by kernel_rfl))
def R241:Rt seat k241:=r241 (zt zg Tryz.func106 (by kernel_rfl) (by kernel_rfl)) R251 R252
def o248:ParseAt seat:=fun g hg=>by
 have hall:only 95 248 fns=true:=by kernel_rfl
 have hm:=all_eq_true.1 hall _ (zU _ _ _ hg);have cA:g=95:=by simpa using hm
 subst cA
 exact ⟨106,67,by kernel_rfl,by kernel_rfl,fun s W h=>Go.Proofs.TryzRead.parse_long s h W,fun s f b W hs hr=>Go.Proofs.TryzRead.parse_bad s hs f b hr W,fun s f i b l W hs hr hb=>Go.Proofs.TryzRead.parse_short s hs f i b l hr hb W,
  fun s f i b l W R hs hr hb hR bU=>Go.Proofs.TryzRead.parse_check s hs f i b l hr hb W R hR bU,fun s f i b l W hs hr hb bU=>Go.Proofs.TryzRead.parse_done s hs f i b l hr hb W bU⟩
def R248:Rt seat k248:=r248 plainS o248 R241
def R355:Rt seat k355:=r355 (zt zg Tryz.func84 (by kernel_rfl) (by kernel_rfl)) R248
def o213:SortIAt seat:=fun g hg=>by
 have hall:only 96 213 fns=true:=by kernel_rfl
 have hm:=all_eq_true.1 hall _ (zU _ _ _ hg);have cA:g=96:=by simpa using hm
 subst cA;exact ⟨fun blk cap ss w hH hb hs=>Go.Proofs.Tryz.slices_Sort_int blk 0 cap ss w hH hb hs,fun p cap w=>Go.Proofs.Tryz.slices_Sort_int_none p cap w⟩
def R213:Rt seat k213:=r213 o213
def o302:CompIAt seat:=fun g hg=>by
 have hall:only 97 302 fns=true:=by kernel_rfl
 have hm:=all_eq_true.1 hall _ (zU _ _ _ hg);have cA:g=97:=by simpa using hm
 subst cA;exact ⟨fun blk cap zs w hH h1 h2=>Go.Proofs.Tryz.slices_Compact_int blk 0 cap zs w hH h1 h2,fun a cap w=>Go.Proofs.Tryz.slices_Compact_int_empty a cap w⟩
def R302:Rt seat k302:=r302 o302
def R47:Rt seat k47:=r47 (zt zg Tryz.func73 (by kernel_rfl) (by kernel_rfl))
def R356:Rt seat k356:=r356 (zt zg Tryz.func85 (by kernel_rfl) (by kernel_rfl)) R213 R302 R37 R47
def R362:Rt seat k362:=r362 (zt zg Tryz.func98 (by kernel_rfl) (by kernel_rfl))
def R357:Rt seat k357:=r357 (zt zg Tryz.func86 (by kernel_rfl) (by kernel_rfl)) R362
def R340:Rt seat k340:=r340 (zt zg Tryz.func66 (by kernel_rfl) (by kernel_rfl)) R15 R303 R355 R356 R357
def R315:Rt seat k315:=r315 (zt zg Tryz.func47 (by kernel_rfl) (by kernel_rfl)) R340
def R320:Rt seat k320:=r320 (zt zg Tryz.func30 (by kernel_rfl) (by kernel_rfl)) R14 R315
def R352:Rt seat k352:=r352 (zt zg Tryz.func17 (by kernel_rfl) (by kernel_rfl)) R320
def R410:Rt seat k410:=r410 (zt zg Tryz.func31 (by kernel_rfl) (by kernel_rfl))
def R411:Rt seat k411:=r411 (zt zg Tryz.func32 (by kernel_rfl) (by kernel_rfl))
def R409:Rt seat k409:=r409 (zt zg Tryz.func18 (by kernel_rfl) (by kernel_rfl)) R410 R411
def o403:zji seat 403 tf403:=zcz zg Tryz.func6 (by kernel_rfl) (by kernel_rfl)
def R403:Rt seat k403:=r403 o403 R352 R409
def R51:Rt seat k51:=r51 (zt zg Tryz.func38 (by kernel_rfl) (by kernel_rfl)) R14
def R58:Rt seat k58:=r58 (zt zg Tryz.func39 (by kernel_rfl) (by kernel_rfl))
def R44:Rt seat k44:=r44 (zt zg Tryz.func55 (by kernel_rfl) (by kernel_rfl)) R47
def R59:Rt seat k59:=r59 (zt zg Tryz.func40 (by kernel_rfl) (by kernel_rfl)) R44
def R60:Rt seat k60:=r60 (zt zg Tryz.func41 (by kernel_rfl) (by kernel_rfl))
def R84:Rt seat k84:=r84 (zt zg Tryz.func89 (by kernel_rfl) (by kernel_rfl))
def R81:Rt seat k81:=r81 (zt zg Tryz.func74 (by kernel_rfl) (by kernel_rfl)) R84
def R74:Rt seat k74:=r74 (zt zg Tryz.func56 (by kernel_rfl) (by kernel_rfl)) R81
def R61:Rt seat k61:=r61 (zt zg Tryz.func42 (by kernel_rfl) (by kernel_rfl)) R74
def R27:Rt seat k27:=r27 (zt zg Tryz.func25 (by kernel_rfl) (by kernel_rfl)) R51 R58 R59 R60 R61
def R80_61:Rt seat k80_61:=r80_61 (zt zg Tryz.func67 (by kernel_rfl) (by kernel_rfl)) R61
def R73:Rt seat k73:=r73 (zt zg Tryz.func48 (by kernel_rfl) (by kernel_rfl)) R80_61
def R76s:Rt seat k76s:=r76s (zt zg Tryz.func37 (by kernel_rfl) (by kernel_rfl))
def slρ:Go.Shelf.Ren:=⟨fun n=>match n with | 22=>50 | 29=>68 | 30=>69 | 45=>49 | _=>0,fun n=>match n with | 0=>0 | 3=>3 | 4=>4 | 9=>59 | 24=>25 | 22=>25 | 23=>59 | _=>0,fun n=>n⟩
def slzc:Array Value:=#[.slice none 0 0,.int .i64 0]
def slL:SlL Tryz.prog slρ slzc:=⟨by kernel_rfl,by kernel_rfl,by kernel_rfl,by kernel_rfl,by kernel_rfl,by kernel_rfl,by kernel_rfl,rfl,fun u hu=>by
 simp only[slzc,List.mem_cons,List.not_mem_nil,or_false] at hu;rcases hu with rfl | rfl<;>rfl⟩
def insL:InsL Tryz.prog slρ slzc:={ slL with
 f22 := ⟨ "slices.Insert[[]tallyhall/api.Entry,tallyhall/api.Entry]", by kernel_rfl, by kernel_rfl⟩
 ov:=fun args w=>run_callFunc_extern (e:=Extern.SlicesOverlaps.overlaps #[25,25] #[4]) Tryz.func68 (by kernel_rfl) (by kernel_rfl) (by kernel_rfl) (by kernel_rfl) args w
 t24:=by kernel_rfl
 i24:=by kernel_rfl
 i9:=by kernel_rfl }
def delL:DelL Tryz.prog slρ slzc:={ slL with
 f45 := ⟨ "slices.Delete[[]tallyhall/api.Entry,tallyhall/api.Entry]", by kernel_rfl, by kernel_rfl⟩
 t22:=by kernel_rfl
 i22:=by kernel_rfl
 i23:=by kernel_rfl }
def o77:DelAt seat 77:=fun g hg=>by
 have hall:only 49 77 fns=true:=by kernel_rfl
 have hm:=all_eq_true.1 hall _ (zU _ _ _ hg);have cA:g=49:=by simpa using hm
 subst cA;exact ⟨slρ,slzc,rfl,delL⟩
def o78:InsAt seat 78:=fun g hg=>by
 have hall:only 50 78 fns=true:=by kernel_rfl
 have hm:=all_eq_true.1 hall _ (zU _ _ _ hg);have cA:g=50:=by simpa using hm
 subst cA;exact ⟨slρ,slzc,rfl,insL⟩
def R77:Rt seat k77:=r77 o77
def R78:Rt seat k78:=r78 o78
def R71:Rt seat k71:=r71 (zt zg Tryz.func34 (by kernel_rfl) (by kernel_rfl)) R58 R59 R60 R73 R76s R77 R78
def R79:Rt seat k79:=r79 (zt zg Tryz.func36 (by kernel_rfl) (by kernel_rfl))
def R72:Rt seat k72:=r72 (zt zg Tryz.func24 (by kernel_rfl) (by kernel_rfl)) R76s R79
def R112:Rt seat k112:=r112 (zt zg Tryz.func20 (by kernel_rfl) (by kernel_rfl)) R27 R71 R72
def o154:JoinAt seat 154:=fun g hg=>by
 have hall:only 29 154 fns=true:=by kernel_rfl
 have hm:=all_eq_true.1 hall _ (zU _ _ _ hg);have cA:g=29:=by simpa using hm
 subst cA;exact ⟨fun a c sep w=>Go.Proofs.TryzSep.join_none a c sep w,fun bk o c xs sep w hc hb h0 h1 h2=>Go.Proofs.TryzSep.join_at bk o c xs sep w hc hb h0 h1 h2⟩
def R154:Rt seat k154:=r154 o154
def o157:ItoaAt seat 157:=fun g hg=>by
 have hall:only 14 157 fns=true:=by kernel_rfl
 have hm:=all_eq_true.1 hall _ (zU _ _ _ hg);have cA:g=14:=by simpa using hm
 subst cA;exact fun n w h0 h1 hw=>Go.Proofs.TryzStr.itoa_at n w h0 h1 hw
def R157:Rt seat k157:=r157 o157
def R407:Rt seat k407:=r407 (zt zg Tryz.func21 (by kernel_rfl) (by kernel_rfl)) R154 R157
def o408:zji seat 408 tf408:=zcz zg Tryz.func22 (by kernel_rfl) (by kernel_rfl)
def R408:Rt seat k408:=r408 o408
def o404:zji seat 404 tf404:=zcz zg Tryz.func8 (by kernel_rfl) (by kernel_rfl)
def R404:Rt seat k404:=r404 o404 R112 R407 R408
def o405:zji seat 405 tf405:=zcz zg Tryz.func10 (by kernel_rfl) (by kernel_rfl)
def R405:Rt seat k405:=r405 o405
def o406:zji seat 406 tf406:=zcz zg Tryz.func11 (by kernel_rfl) (by kernel_rfl)
def R406:Rt seat k406:=r406 o406 R72
def R105a (x:Err) (y:Int) (hy:P105 x=some y):(za seat).ret 105 (encAL [.err] x) (encA .int y) []:=by
 intro g hg;have hall:only 23 105 fns=true:=by kernel_rfl
 have hm:=all_eq_true.1 hall _ (zU _ _ _ hg);have cA:g=23:=by simpa using hm
 subst cA;refine w4 (fun A w vs hl hA ha => ?_) (fun y hy=>by
  simp only[encAL,List.mem_singleton] at hy;subst hy;cases x<;>rfl)
 have bR:vs.size=1:=by cases x<;>exact hl
 obtain ⟨v,rfl⟩:∃ v,vs=#[v]:=⟨vs[0],by
  apply Array.ext
  ·simpa using bR
  ·intro i h1 h2;obtain rfl:i=0:=by omega
   rfl⟩
 cases x with
 | nil =>obtain rfl:y=0:=(Option.some.inj hy).symm;have hv:VR0 seat A w (.v .nilIface) v:=ha 0 _ rfl;obtain rfl:v=.nilIface:=VR.v_inv (σ:=fun _=>none) (.of0 hv);refine (Go.Proofs.Tryztold.told_nil w).mono fun e w' ⟨he,hw⟩ => ?_;subst hw;exact ⟨_,he,.refl _ _,fun _=>none,by simp,by simp,rfl,.v _⟩
 | no n =>
  obtain rfl:y=n:=(Option.some.inj hy).symm;have hv:VR0 seat A w (.ifc 1 (aI y)) v:=ha 0 _ rfl;obtain ⟨T,u,rfl,hT,hu⟩:∃ T u,v=.iface T u∧qh T tys=some 1∧VR0 seat A w (aI y) u:=by cases hv with | ifc h1 h2=>exact ⟨_,_,rfl,h1,h2⟩
  obtain rfl:u=.int .i64 y:=VR.v_inv (σ:=fun _=>none) (.of0 hu);obtain rfl:T=67:=(by have:=zU _ _ _ hT;simpa[tys] using this);refine (Go.Proofs.Tryztold.told_no y w (hA.2.1 (0,_) (List.mem_singleton.2 rfl))).mono fun e w' ⟨he,hb⟩ => ?_;exact ⟨_,he,⟨hb.os,hb.tape,hb.output,hb.size,fun k hk _=>hb.block k hk⟩,fun _=>none,by simp,by simp,rfl,.v _⟩
 | oth t=>cases hy
def R105:Rt seat k105:=fun x y hy=>R105a x y hy
def R92:Rt seat k92:=r92 (zt zg Tryz.func9 (by kernel_rfl) (by kernel_rfl)) R105
def R412:Rt seat k412:=r412 (zt zg Tryz.func4 (by kernel_rfl) (by kernel_rfl)) R22 R403 R404 R405 R406 R92
end Ab.Tryz
