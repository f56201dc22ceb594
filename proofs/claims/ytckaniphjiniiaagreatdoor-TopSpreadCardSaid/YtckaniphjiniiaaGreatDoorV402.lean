/-
  The seat's program for the abstract machine, and the contracts of all functions that the law reaches: written by program (genlaw.py).
-/
import Derived.Test.YtckaniphjiniiaaGreatDoorW402
import Derived.Test.YtckaniphjiniiaaGreatDoorH8
import Derived.Test.YtckaniphjiniiaaGreatDoorHG
import Derived.Test.YtckaniphjiniiaaGreatDoorD3
open List (all_eq_true)
set_option linter.all false
namespace Ab.Tryz
open Go Go.Proofs
def fns:List (Nat×Nat):=[(3,402),(4,401),(5,382),(6,112),(7,377),(8,8),(9,332),(10,349),(11,127),(12,111),(13,57),(14,384),(15,386),(16,27),(17,72),(18,71),(19,58),(20,350),(21,351),(22,70),(23,30),(24,40),(25,69),(26,352),(27,114),(28,46),(29,113),(30,59),(31,73),(32,392),(33,393),(34,394),(35,81),(36,51),(37,60),(38,61),(39,79),(40,76),(41,77),(42,78),(43,355),(44,49),(45,360),(46,361),(47,320),(48,45),(49,44),(50,80),(51,396),(52,84),(53,14),(54,74),(56,83),(57,248),(58,353),(59,298),(60,364),(61,37),(62,47),(63,33),(64,315),(65,48),(66,397),(67,398),(68,15),(69,38),(70,39),(71,85),(72,258),(73,259),(74,241),(75,34),(76,35),(77,63),(78,64),(79,340),(80,399),(81,41),(82,42),(83,65),(84,86),(85,263),(86,264),(87,251),(88,252),(89,62),(90,356),(91,357),(92,303),(93,400),(94,66),(95,67),(96,275),(97,276),(98,277),(99,278),(100,213),(101,302),(102,362),(103,363),(104,75),(105,191),(106,283),(107,284),(108,285),(109,216),(110,217),(112,167),(113,218),(114,219),(115,220),(116,221),(117,222),(118,223),(119,224),(120,225),(121,226),(122,227),(123,198),(124,175),(125,176),(126,228),(127,229),(128,230),(129,231),(130,232),(131,181),(132,182),(133,183),(134,184),(135,185),(136,233),(137,194),(138,195),(139,196),(140,157),(141,203),(142,204),(143,168),(144,177),(145,186),(146,187),(147,188),(148,189),(149,197),(150,199),(151,200),(152,201),(153,205),(154,206)]
def tys:List (Nat×Nat):=[(59,1),(183,4)]
noncomputable def seat:Seat:={ P:=Tryz.prog,fns,tys,muts:=[(71,[1001]),(77,[1000]),(78,[1000,1002]),(213,[0]),(302,[1000]),(393,[0]),(396,[0]),(397,[0]),(398,[0]),(399,[0]),(400,[0])],own:=[72,76,79],more:=[3],hold:=Go.Proofs.TryzStr.hold,holdK:=Go.Proofs.TryzStr.holdK }
def zf:zZ seat:=zkr (by kernel_rfl)
def mT:Plain seat:=⟨fun _ h=>h,fun _=>trivial⟩
def R67:Rt seat k67:=r67 (zk zf Tryz.func95)
def R75_67:Rt seat k75_67:=r75_67 (zk zf Tryz.func104) R67
def R66_67:Rt seat k66_67:=r66_67 (zk zf Tryz.func94) R75_67
def R41:Rt seat k41:=r41 (zk zf Tryz.func81) R66_67
def R64:Rt seat k64:=r64 (zk zf Tryz.func78)
def R63_64:Rt seat zlk:=r63_64 (zk zf Tryz.func77) R64
def R37:Rt seat k37:=r37 (zk zf Tryz.func61) R63_64
def R42:Rt seat k42:=r42 (zk zf Tryz.func82) R37 R41
def R15:Rt seat k15:=r15 (zk zf Tryz.func68) R41 R42
def R39:Rt seat k39:=r39 (zk zf Tryz.func70)
def R65_39:Rt seat k65_39:=r65_39 (zk zf Tryz.func83) R39
def R38_39:Rt seat k38_39:=r38_39 (zk zf Tryz.func69) R65_39
def R40:Rt seat k40:=r40 (zk zf Tryz.func24)
def R14:Rt seat k14:=r14 (zk zf Tryz.func53) R15 R38_39 R40
def R51:Rt seat k51:=r51 (zk zf Tryz.func36) R14
def R58:Rt seat k58:=r58 (zk zf Tryz.func19)
def R47:Rt seat k47:=r47 (zk zf Tryz.func62)
def R44:Rt seat k44:=r44 (zk zf Tryz.func49) R47
def R59:Rt seat k59:=r59 (zk zf Tryz.func30) R44
def R60:Rt seat k60:=r60 (zk zf Tryz.func37)
def R84:Rt seat k84:=r84 (zk zf Tryz.func52)
def R81:Rt seat k81:=r81 (zk zf Tryz.func35) R84
def R74:Rt seat k74:=r74 (zk zf Tryz.func54) R81
def R61:Rt seat k61:=r61 (zk zf Tryz.func38) R74
def R27:Rt seat k27:=r27 (zk zf Tryz.func16) R51 R58 R59 R60 R61
def R80_61:Rt seat zlj:=r80_61 (zk zf Tryz.func50) R61
def R73:Rt seat k73:=r73 (zk zf Tryz.func31) R80_61
def o76:Ok1 seat 76 tf76:=zk zf Tryz.func40 (by kernel_rfl) (by kernel_rfl)
def R76s:Rt seat k76s:=r76s o76
def slρ:Go.Shelf.Ren:=⟨fun n=>match n with|22=>42|29=>55|30=>56|45=>41|_=>0,fun n=>match n with|0=>0|3=>3|4=>4|9=>54|24=>25|22=>25|23=>54|_=>0,fun n=>n⟩
def slzc:Array Value:=#[.slice none 0 0,.int .i64 0]
def slL:SlL Tryz.prog slρ slzc:=⟨by kernel_rfl,by kernel_rfl,by kernel_rfl,by kernel_rfl,by kernel_rfl,by kernel_rfl,by kernel_rfl,rfl,fun u hu=>by
 simp only[slzc,List.mem_cons,List.not_mem_nil,or_false] at hu;rcases hu with rfl|rfl<;>rfl⟩
def insL:InsL Tryz.prog slρ slzc:={ slL with
 f22 := ⟨ "slices.Insert[[]tallyhall/api.Entry,tallyhall/api.Entry]", by kernel_rfl, by kernel_rfl⟩
 ov:=fun args w=>run_callFunc_extern (e:=Extern.SlicesOverlaps.overlaps #[25,25] #[4]) Tryz.func55 (by kernel_rfl) (by kernel_rfl) (by kernel_rfl) (by kernel_rfl) args w
 t24:=by kernel_rfl
 i24:=by kernel_rfl
 i9:=by kernel_rfl }
def delL:DelL Tryz.prog slρ slzc:={ slL with
 f45 := ⟨ "slices.Delete[[]tallyhall/api.Entry,tallyhall/api.Entry]", by kernel_rfl, by kernel_rfl⟩
 t22:=by kernel_rfl
 i22:=by kernel_rfl
 i23:=by kernel_rfl }
def o77:DelAt seat 77:=fun g hg=>by
 have hall:only 41 77 fns=true:=by kernel_rfl
 have hm:=all_eq_true.1 hall _ (qq _ _ _ hg);have cX:g=41:=by simpa using hm
 subst cX;exact⟨slρ,slzc,rfl,delL⟩
def o78:InsAt seat 78:=fun g hg=>by
 have hall:only 42 78 fns=true:=by kernel_rfl
 have hm:=all_eq_true.1 hall _ (qq _ _ _ hg);have cX:g=42:=by simpa using hm
 subst cX;exact⟨slρ,slzc,rfl,insL⟩
def R77:Rt seat k77:=r77 o77
def R78:Rt seat k78:=r78 o78
def R71:Rt seat k71:=r71 (zk zf Tryz.func18) R58 R59 R60 R73 R76s R77 R78
def R79:Rt seat k79:=r79 (zk zf Tryz.func39)
def R72:Rt seat k72:=r72 (zk zf Tryz.func17) R76s R79
def R112:Rt seat k112:=r112 (zk zf Tryz.func6) R27 R71 R72
def o303:ReachAt seat:=fun g hg=>by
 have hall:only 92 303 fns=true:=by kernel_rfl
 have hm:=all_eq_true.1 hall _ (qq _ _ _ hg);have cX:g=92:=by simpa using hm
 subst cX;exact fun n i v W b hR hs hb=>Go.Proofs.TryzReach.reach_calls hR hs hb
def R303:Rt seat k303:=r303 o303
def o251:NodeAt seat:=fun g hg=>by
 have hall:only 87 251 fns=true:=by kernel_rfl
 have hm:=all_eq_true.1 hall _ (qq _ _ _ hg);have cX:g=87:=by simpa using hm
 subst cX;refine⟨81,59,by kernel_rfl,by kernel_rfl,fun T' hT => ?_,fun l lv k x W hk h6 hN fy=>Go.Proofs.TryzNode.node_calls l lv k x W hk h6 hN fy⟩;have:=qq _ _ _ hT;simpa[seat,tys] using this
def R251:Rt seat k251:=r251 mT o251 R41
def R252:Rt seat k252:=r252 (zk zf Tryz.func88)
def R241:Rt seat k241:=r241 (zk zf Tryz.func74) R251 R252
def o248:ParseAt seat:=fun g hg=>by
 have hall:only 57 248 fns=true:=by kernel_rfl
 have hm:=all_eq_true.1 hall _ (qq _ _ _ hg);have cX:g=57:=by simpa using hm
 subst cX
 exact⟨74,59,by kernel_rfl,by kernel_rfl,fun s W h=>Go.Proofs.TryzRead.parse_long s h W,fun s f b W hs hr=>Go.Proofs.TryzRead.parse_bad s hs f b hr W,fun s f i b l W hs hr hb=>Go.Proofs.TryzRead.parse_short s hs f i b l hr hb W,
  fun s f i b l W R hs hr hb hR bd=>Go.Proofs.TryzRead.parse_check s hs f i b l hr hb W R hR bd,fun s f i b l W hs hr hb bd=>Go.Proofs.TryzRead.parse_done s hs f i b l hr hb W bd⟩
def R248:Rt seat k248:=r248 mT o248 R241
def R355:Rt seat k355:=r355 (zk zf Tryz.func43) R248
def o213:SortIAt seat:=fun g hg=>by
 have hall:only 100 213 fns=true:=by kernel_rfl
 have hm:=all_eq_true.1 hall _ (qq _ _ _ hg);have cX:g=100:=by simpa using hm
 subst cX;exact⟨fun blk cap ss w hH hb hs=>Go.Proofs.Tryz.slices_Sort_int blk 0 cap ss w hH hb hs,fun p cap w=>Go.Proofs.Tryz.slices_Sort_int_none p cap w⟩
def R213:Rt seat k213:=r213 o213
def o302:CompIAt seat:=fun g hg=>by
 have hall:only 101 302 fns=true:=by kernel_rfl
 have hm:=all_eq_true.1 hall _ (qq _ _ _ hg);have cX:g=101:=by simpa using hm
 subst cX;exact⟨fun blk cap zs w hH h1 h2=>Go.Proofs.Tryz.slices_Compact_int blk 0 cap zs w hH h1 h2,fun a cap w=>Go.Proofs.Tryz.slices_Compact_int_empty a cap w⟩
def R302:Rt seat k302:=r302 o302
def R356:Rt seat k356:=r356 (zk zf Tryz.func90) R213 R302 R37 R47
def R362:Rt seat k362:=r362 (zk zf Tryz.func102)
def R357:Rt seat k357:=r357 (zk zf Tryz.func91) R362
def R340:Rt seat k340:=r340 (zk zf Tryz.func79) R15 R303 R355 R356 R357
def R315:Rt seat k315:=r315 (zk zf Tryz.func64) R340
def R320:Rt seat k320:=r320 (zk zf Tryz.func47) R14 R315
def R352:Rt seat k352:=r352 (zk zf Tryz.func26) R320
def R349:Rt seat k349:=r349 (zk zf Tryz.func10) R27 R352
def R57:Rt seat k57:=r57 (zk zf Tryz.func13) R73
def R76:Rt seat k76:=r76 o76
def R70:Rt seat k70:=r70 (zk zf Tryz.func22) R76
def R30:Rt seat k30:=r30 (zk zf Tryz.func23)
def R8:Rt seat k8:=r8 (zk zf Tryz.func8) R30
section
variable (J:JP)
def jE:zZ (zH seat J):=zf
def oJ49:Ok1 (zH seat J) 49 tf49:=zk (jE J) Tryz.func44 (by kernel_rfl) (by kernel_rfl)
def RJ49:Rt (zH seat J) k49:=r49 (oJ49 J)
def oJ47:Ok1 (zH seat J) 47 tf47:=zk (jE J) Tryz.func62 (by kernel_rfl) (by kernel_rfl)
def RJ47:Rt (zH seat J) k47:=r47 (oJ47 J)
def oJ44:Ok1 (zH seat J) 44 tf44:=zk (jE J) Tryz.func49 (by kernel_rfl) (by kernel_rfl)
def RJ44:Rt (zH seat J) k44:=r44 (oJ44 J) (RJ47 J)
def oJ353:Ok1 (zH seat J) 353 tf353:=zk (jE J) Tryz.func58 (by kernel_rfl) (by kernel_rfl)
def RJ353:Rt (zH seat J) k353:=r353 (oJ353 J) (RJ44 J)
def oJ84:Ok1 (zH seat J) 84 tf84:=zk (jE J) Tryz.func52 (by kernel_rfl) (by kernel_rfl)
def RJ84:Rt (zH seat J) k84:=r84 (oJ84 J)
def oJ81:Ok1 (zH seat J) 81 tf81:=zk (jE J) Tryz.func35 (by kernel_rfl) (by kernel_rfl)
def RJ81:Rt (zH seat J) k81:=r81 (oJ81 J) (RJ84 J)
def oJ74:Ok1 (zH seat J) 74 tf74:=zk (jE J) Tryz.func54 (by kernel_rfl) (by kernel_rfl)
def RJ74:Rt (zH seat J) k74:=r74 (oJ74 J) (RJ81 J)
def oJ61:Ok1 (zH seat J) 61 tf61:=zk (jE J) Tryz.func38 (by kernel_rfl) (by kernel_rfl)
def RJ61:Rt (zH seat J) k61:=r61 (oJ61 J) (RJ74 J)
def oJ80:Ok1 (zH seat J) 80 tf80:=zk (jE J) Tryz.func50 (by kernel_rfl) (by kernel_rfl)
def RJ80_61:Rt (zH seat J) zlj:=r80_61 (oJ80 J) (RJ61 J)
def oJ73:Ok1 (zH seat J) 73 tf73:=zk (jE J) Tryz.func31 (by kernel_rfl) (by kernel_rfl)
def RJ73:Rt (zH seat J) k73:=r73 (oJ73 J) (RJ80_61 J)
def oJ57:Ok1 (zH seat J) 57 tf57:=zk (jE J) Tryz.func13 (by kernel_rfl) (by kernel_rfl)
def RJ57:Rt (zH seat J) k57:=r57 (oJ57 J) (RJ73 J)
def oJ76:Ok1 (zH seat J) 76 tf76:=zk (jE J) Tryz.func40 (by kernel_rfl) (by kernel_rfl)
def RJ76:Rt (zH seat J) k76:=r76 (oJ76 J)
def oJ70:Ok1 (zH seat J) 70 tf70:=zk (jE J) Tryz.func22 (by kernel_rfl) (by kernel_rfl)
def RJ70:Rt (zH seat J) k70:=r70 (oJ70 J) (RJ76 J)
def oJ30:Ok1 (zH seat J) 30 tf30:=zk (jE J) Tryz.func23 (by kernel_rfl) (by kernel_rfl)
def RJ30:Rt (zH seat J) k30:=r30 (oJ30 J)
def oJ8:Ok1 (zH seat J) 8 tf8:=zk (jE J) Tryz.func8 (by kernel_rfl) (by kernel_rfl)
def RJ8:Rt (zH seat J) k8:=r8 (oJ8 J) (RJ30 J)
def oJ33:Ok1 (zH seat J) 33 tf33:=zk (jE J) Tryz.func63 (by kernel_rfl) (by kernel_rfl)
def RJ33:Rt (zH seat J) k33:=r33 (oJ33 J) (RJ8 J)
def oJ62:Ok1 (zH seat J) 62 tf62:=zk (jE J) Tryz.func89 (by kernel_rfl) (by kernel_rfl)
def RJ62:Rt (zH seat J) k62:=r62 (oJ62 J)
def oJ34:Ok1 (zH seat J) 34 tf34:=zk (jE J) Tryz.func75 (by kernel_rfl) (by kernel_rfl)
def RJ34:Rt (zH seat J) k34:=r34 (oJ34 J) (RJ62 J) (RJ8 J)
def oJ35:Ok1 (zH seat J) 35 tf35:=zk (jE J) Tryz.func76 (by kernel_rfl) (by kernel_rfl)
def RJ35:Rt (zH seat J) k35:=r35 (oJ35 J) (RJ8 J)
def oJ64:Ok1 (zH seat J) 64 tf64:=zk (jE J) Tryz.func78 (by kernel_rfl) (by kernel_rfl)
def RJ64:Rt (zH seat J) k64:=r64 (oJ64 J)
def oJ63:Ok1 (zH seat J) 63 tf63:=zk (jE J) Tryz.func77 (by kernel_rfl) (by kernel_rfl)
def RJ63_64:Rt (zH seat J) zlk:=r63_64 (oJ63 J) (RJ64 J)
def oJ37:Ok1 (zH seat J) 37 tf37:=zk (jE J) Tryz.func61 (by kernel_rfl) (by kernel_rfl)
def RJ37:Rt (zH seat J) k37:=r37 (oJ37 J) (RJ63_64 J)
def oJ40:Ok1 (zH seat J) 40 tf40:=zk (jE J) Tryz.func24 (by kernel_rfl) (by kernel_rfl)
def RJ40:Rt (zH seat J) k40:=r40 (oJ40 J)
def oJ69:Ok1 (zH seat J) 69 tf69:=zk (jE J) Tryz.func25 (by kernel_rfl) (by kernel_rfl)
def RJ69:Rt (zH seat J) k69:=r69 (oJ69 J)
def oJ364:Ok1 (zH seat J) 364 tf364:=zk (jE J) Tryz.func60 (by kernel_rfl) (by kernel_rfl)
def oJ298:Ok1 (zH seat J) 298 tf298:=zk (jE J) Tryz.func59 (by kernel_rfl) (by kernel_rfl)
def oJ361:Ok1 (zH seat J) 361 tf361:=zk (jE J) Tryz.func46 (by kernel_rfl) (by kernel_rfl)
def atJ:AtAt (zH seat J) J:=fun g hg=>by
 have hall:only 21 351 fns=true:=by kernel_rfl
 have hm:=all_eq_true.1 hall _ (qq _ _ _ hg);have cX:g=21:=by simpa using hm
 subst cX;exact⟨44,46,by kernel_rfl,by kernel_rfl,fun hb h1 h2 h3 h4 h5 h6 h7 h8 h9 h10 h11=>Go.Proofs.TryzSolve.at_calls hb h1 h2 h3 h4 h5 h6 h7 h8 h9 h10 h11⟩
def R351n (aK:JOk J):∀n,Rt (zH seat J) (k351 J n):=r351 aK (atJ J) (RJ49 J) fun _ h=>r361 (oJ361 J) (r298_364 (oJ298 J) (RJ33 J) (RJ34 J) (RJ35 J) (r364 (oJ364 J) h (RJ37 J) (RJ70 J)) (RJ8 J)) (RJ33 J) h (RJ353 J) (RJ47 J) (RJ57 J) (RJ70 J)
def knows (aK:JOk J):JKnows seat J:=⟨r351w (R351n J aK),RJ40 J,RJ69 J⟩
end
def o377:Ok1 seat 377 tf377:=zk zf Tryz.func7 (by kernel_rfl) (by kernel_rfl)
def m377:MakeAt seat:=fun g hg=>by
 have hall:only 7 377 fns=true:=by kernel_rfl
 have hm:=all_eq_true.1 hall _ (qq _ _ _ hg);have cX:g=7:=by simpa using hm
 subst cX;exact⟨10,19,20,Tryz.f20,Tryz.f7,Go.Proofs.TryzSolve.rest377,43,by kernel_rfl,by kernel_rfl,Tryz.func20,by kernel_rfl,rfl,fun J=>by kernel_rfl,by kernel_rfl,rfl,fun h1 h2 h3 h4 h5 h6 h7 h8 h9=>Go.Proofs.TryzSolve.make_walk h1 h2 h3 h4 h5 h6 h7 h8 h9⟩
def R377:Rt seat k377:=r377 zf mT R355 R40 R349 R58 R70 knows RJ70 o377 m377
def R48:Rt seat k48:=r48 (zk zf Tryz.func65)
def R45:Rt seat k45:=r45 (zk zf Tryz.func48) R48
def R113:Rt seat k113:=r113 (zk zf Tryz.func29) R45
def R114:Rt seat k114:=r114 (zk zf Tryz.func27) R51 R58
def R111:Rt seat k111:=r111 (zk zf Tryz.func12) R113 R114 R59
def R46:Rt seat k46:=r46 (zk zf Tryz.func28) R44 R45
def R127:Rt seat k127:=r127 (zk zf Tryz.func11) R114 R46
def R392:Rt seat k392:=r392 (zk zf Tryz.func32)
def R384:Rt seat k384:=r384 (zk zf Tryz.func14) R392
def R394:Rt seat k394:=r394 (zk zf Tryz.func34) R81
def R397_394:Rt seat zdK:=r397_394 (zk zf Tryz.func66) R394
def R400_394:Rt seat zdI:=r400_394 (zk zf Tryz.func93)
def R399_394:Rt seat lE:=r399_394 (zk zf Tryz.func80) R400_394
def R398_394:Rt seat zdJ:=r398_394 (zk zf Tryz.func67) R394 R399_394
def R396_394:Rt seat zdL:=r396_394 (zk zf Tryz.func51) R397_394 R398_394
def R393_394:Rt seat nZ:=r393_394 (zk zf Tryz.func33) R396_394
def R386:Rt seat k386:=r386 (zk zf Tryz.func15) R392 R393_394
def R382:Rt seat k382:=r382 (zk zf Tryz.func5) R111 R127 R349 R384 R386 R57
def o332:AllAt seat:=fun g hg=>by
 have hall:only 9 332 fns=true:=by kernel_rfl
 have hm:=all_eq_true.1 hall _ (qq _ _ _ hg);have cX:g=9:=by simpa using hm
 subst cX;exact⟨10,20,Tryz.f20,Tryz.f9,Go.Proofs.TryzSolve.rest332,by kernel_rfl,Tryz.func20,by kernel_rfl,rfl,fun J=>by kernel_rfl,by kernel_rfl,rfl,fun h1 h2 h3 h4=>Go.Proofs.TryzSolve.all_walk h1 h2 h3 h4,fun h1 h2=>Go.Proofs.TryzSolve.all_err h1 h2⟩
def R332:Rt seat k332:=r332 zf mT R349 R355 R40 knows o332
def R401:Rt seat k401:=r401 (zk zf Tryz.func4) R332 R8
def R402:Rt seat k402:=r402 (zk zf Tryz.func3) R112 R377 R382 R401 R8
end Ab.Tryz
