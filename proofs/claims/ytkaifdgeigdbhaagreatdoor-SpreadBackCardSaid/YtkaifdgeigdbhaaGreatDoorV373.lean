/-
  The seat's program for the abstract machine, and the contracts of all functions that the law reaches: written by program (genlaw.py).
-/
import Derived.Test.YtkaifdgeigdbhaaGreatDoorW373
import Derived.Test.YtkaifdgeigdbhaaGreatDoorF5
import Derived.Test.YtkaifdgeigdbhaaGreatDoorMNw
import Derived.Test.YtkaifdgeigdbhaaGreatDoorD3
open List (all_eq_true)
set_option linter.all false
namespace Ab.Tryz
open Go Go.Proofs
def fns:List (Nat×Nat):=[(3,370),(4,371),(5,372),(6,373),(7,374),(8,375),(9,8),(10,376),(11,377),(12,378),(13,379),(14,330),(15,335),(16,123),(17,336),(18,250),(19,140),(20,92),(21,380),(22,125),(23,145),(24,381),(25,246),(26,22),(27,50),(28,382),(29,383),(30,384),(31,104),(32,385),(33,386),(34,387),(35,388),(36,112),(37,110),(38,30),(39,363),(40,349),(41,58),(42,350),(43,351),(44,70),(45,389),(46,390),(47,52),(48,24),(49,324),(50,122),(51,338),(52,354),(53,142),(54,105),(55,144),(56,94),(57,159),(58,51),(59,391),(60,154),(61,139),(62,68),(63,127),(64,111),(65,57),(66,392),(67,393),(68,394),(69,81),(70,126),(71,129),(72,134),(73,28),(74,27),(75,72),(76,71),(77,113),(78,352),(79,40),(80,355),(81,49),(82,360),(83,361),(84,76),(85,395),(86,319),(87,130),(88,151),(89,326),(90,106),(91,325),(92,337),(93,247),(94,243),(95,96),(96,292),(97,100),(98,146),(99,107),(100,95),(101,14),(102,164),(103,165),(104,166),(105,157),(106,114),(107,46),(108,59),(109,73),(110,396),(111,84),(112,103),(113,155),(114,60),(115,61),(116,79),(117,77),(118,78),(119,45),(120,320),(121,248),(122,353),(123,298),(124,364),(125,37),(126,47),(127,33),(128,321),(129,102),(130,347),(131,257),(132,240),(133,150),(134,291),(135,147),(136,148),(140,169),(141,97),(142,15),(143,38),(144,39),(145,173),(146,174),(147,168),(148,44),(149,80),(150,397),(151,398),(152,74),(154,83),(155,48),(156,315),(157,258),(158,259),(159,241),(160,34),(161,35),(162,63),(163,64),(164,348),(165,262),(166,253),(167,160),(171,41),(172,42),(173,65),(176,177),(177,399),(178,85),(179,340),(180,263),(181,264),(182,251),(183,252),(184,62),(185,274),(186,66),(187,67),(188,186),(189,187),(190,188),(191,189),(192,400),(193,86),(194,356),(195,357),(196,303),(197,275),(198,276),(199,277),(200,278),(201,75),(202,197),(203,198),(204,199),(205,200),(206,201),(207,213),(208,302),(209,362),(210,191),(211,283),(212,284),(213,285),(214,205),(215,206),(216,216),(217,217),(219,167),(220,218),(221,219),(222,220),(223,221),(224,222),(225,223),(226,224),(227,225),(228,226),(229,227),(230,175),(231,176),(232,228),(233,229),(234,230),(235,231),(236,232),(237,181),(238,182),(239,183),(240,184),(241,185),(242,233),(243,194),(244,195),(245,196),(246,203),(247,204),(283,207)]
def tys:List (Nat×Nat):=[(90,1),(292,4)]
noncomputable def seat:Seat:={ P:=Tryz.prog,fns,tys,muts:=[(71,[1001]),(77,[1000]),(78,[1000,1002]),(213,[0]),(302,[1000]),(393,[0]),(396,[0]),(397,[0]),(398,[0]),(399,[0]),(400,[0])],own:=[72,76,79],more:=[2],hold:=Go.Proofs.TryzStr.hold,holdK:=Go.Proofs.TryzStr.holdK }
def zg:qw seat:=zhX (by kernel_rfl)
def plainS:Plain seat:=⟨fun _ h=>h,fun _=>trivial⟩
def R48:Rt seat k48:=r48 (zp zg Tryz.func155 (by kernel_rfl) (by kernel_rfl))
def R45:Rt seat k45:=r45 (zp zg Tryz.func119 (by kernel_rfl) (by kernel_rfl)) R48
def R113:Rt seat k113:=r113 (zp zg Tryz.func77 (by kernel_rfl) (by kernel_rfl)) R45
def R67:Rt seat k67:=r67 (zp zg Tryz.func187 (by kernel_rfl) (by kernel_rfl))
def R75_67:Rt seat k75_67:=r75_67 (zp zg Tryz.func201 (by kernel_rfl) (by kernel_rfl)) R67
def R66_67:Rt seat k66_67:=r66_67 (zp zg Tryz.func186 (by kernel_rfl) (by kernel_rfl)) R75_67
def R41:Rt seat k41:=r41 (zp zg Tryz.func171 (by kernel_rfl) (by kernel_rfl)) R66_67
def R64:Rt seat k64:=r64 (zp zg Tryz.func163 (by kernel_rfl) (by kernel_rfl))
def R63_64:Rt seat k63_64:=r63_64 (zp zg Tryz.func162 (by kernel_rfl) (by kernel_rfl)) R64
def R37:Rt seat k37:=r37 (zp zg Tryz.func125 (by kernel_rfl) (by kernel_rfl)) R63_64
def R42:Rt seat k42:=r42 (zp zg Tryz.func172 (by kernel_rfl) (by kernel_rfl)) R37 R41
def R15:Rt seat k15:=r15 (zp zg Tryz.func142 (by kernel_rfl) (by kernel_rfl)) R41 R42
def R39:Rt seat k39:=r39 (zp zg Tryz.func144 (by kernel_rfl) (by kernel_rfl))
def R65_39:Rt seat k65_39:=r65_39 (zp zg Tryz.func173 (by kernel_rfl) (by kernel_rfl)) R39
def R38_39:Rt seat k38_39:=r38_39 (zp zg Tryz.func143 (by kernel_rfl) (by kernel_rfl)) R65_39
def R40:Rt seat k40:=r40 (zp zg Tryz.func79 (by kernel_rfl) (by kernel_rfl))
def R14:Rt seat k14:=r14 (zp zg Tryz.func101 (by kernel_rfl) (by kernel_rfl)) R15 R38_39 R40
def R51:Rt seat k51:=r51 (zp zg Tryz.func58 (by kernel_rfl) (by kernel_rfl)) R14
def R58:Rt seat k58:=r58 (zp zg Tryz.func41 (by kernel_rfl) (by kernel_rfl))
def R114:Rt seat k114:=r114 (zp zg Tryz.func106 (by kernel_rfl) (by kernel_rfl)) R51 R58
def R47:Rt seat k47:=r47 (zp zg Tryz.func126 (by kernel_rfl) (by kernel_rfl))
def R44:Rt seat k44:=r44 (zp zg Tryz.func148 (by kernel_rfl) (by kernel_rfl)) R47
def R59:Rt seat k59:=r59 (zp zg Tryz.func108 (by kernel_rfl) (by kernel_rfl)) R44
def R111:Rt seat k111:=r111 (zp zg Tryz.func64 (by kernel_rfl) (by kernel_rfl)) R113 R114 R59
def R46:Rt seat k46:=r46 (zp zg Tryz.func107 (by kernel_rfl) (by kernel_rfl)) R44 R45
def R127:Rt seat k127:=r127 (zp zg Tryz.func63 (by kernel_rfl) (by kernel_rfl)) R114 R46
def R60:Rt seat k60:=r60 (zp zg Tryz.func114 (by kernel_rfl) (by kernel_rfl))
def R84:Rt seat k84:=r84 (zp zg Tryz.func111 (by kernel_rfl) (by kernel_rfl))
def R81:Rt seat k81:=r81 (zp zg Tryz.func69 (by kernel_rfl) (by kernel_rfl)) R84
def R74:Rt seat k74:=r74 (zp zg Tryz.func152 (by kernel_rfl) (by kernel_rfl)) R81
def R61:Rt seat k61:=r61 (zp zg Tryz.func115 (by kernel_rfl) (by kernel_rfl)) R74
def R27:Rt seat k27:=r27 (zp zg Tryz.func74 (by kernel_rfl) (by kernel_rfl)) R51 R58 R59 R60 R61
def o303:ReachAt seat:=fun g hg=>by
 have hall:only 196 303 fns=true:=by kernel_rfl
 have hm:=all_eq_true.1 hall _ (q8 _ _ _ hg);have eX:g=196:=by simpa using hm
 subst eX;exact fun n i v W b hR hs hb=>Go.Proofs.TryzReach.reach_calls hR hs hb
def R303:Rt seat k303:=r303 o303
def o251:NodeAt seat:=fun g hg=>by
 have hall:only 182 251 fns=true:=by kernel_rfl
 have hm:=all_eq_true.1 hall _ (q8 _ _ _ hg);have eX:g=182:=by simpa using hm
 subst eX;refine ⟨171,90,by kernel_rfl,by kernel_rfl,fun T' hT => ?_,fun l lv k x W hk h6 hN dG=>Go.Proofs.TryzNode.node_calls l lv k x W hk h6 hN dG⟩;have:=q8 _ _ _ hT;simpa[seat,tys] using this
def R251:Rt seat k251:=r251 plainS o251 R41
def R252:Rt seat k252:=r252 (zp zg Tryz.func183 (by kernel_rfl) (by kernel_rfl))
def R241:Rt seat k241:=r241 (zp zg Tryz.func159 (by kernel_rfl) (by kernel_rfl)) R251 R252
def o248:ParseAt seat:=fun g hg=>by
 have hall:only 121 248 fns=true:=by kernel_rfl
 have hm:=all_eq_true.1 hall _ (q8 _ _ _ hg);have eX:g=121:=by simpa using hm
 subst eX
 exact ⟨159,90,by kernel_rfl,by kernel_rfl,fun s W h=>Go.Proofs.TryzRead.parse_long s h W,fun s f b W hs hr=>Go.Proofs.TryzRead.parse_bad s hs f b hr W,fun s f i b l W hs hr hb=>Go.Proofs.TryzRead.parse_short s hs f i b l hr hb W,
  fun s f i b l W R hs hr hb hR cD=>Go.Proofs.TryzRead.parse_check s hs f i b l hr hb W R hR cD,fun s f i b l W hs hr hb cD=>Go.Proofs.TryzRead.parse_done s hs f i b l hr hb W cD⟩
def R248:Rt seat k248:=r248 plainS o248 R241
def R355:Rt seat k355:=r355 (zp zg Tryz.func80 (by kernel_rfl) (by kernel_rfl)) R248
def o213:SortIAt seat:=fun g hg=>by
 have hall:only 207 213 fns=true:=by kernel_rfl
 have hm:=all_eq_true.1 hall _ (q8 _ _ _ hg);have eX:g=207:=by simpa using hm
 subst eX;exact ⟨fun blk cap ss w hH hb hs=>Go.Proofs.Tryz.slices_Sort_int blk 0 cap ss w hH hb hs,fun p cap w=>Go.Proofs.Tryz.slices_Sort_int_none p cap w⟩
def R213:Rt seat k213:=r213 o213
def o302:CompIAt seat:=fun g hg=>by
 have hall:only 208 302 fns=true:=by kernel_rfl
 have hm:=all_eq_true.1 hall _ (q8 _ _ _ hg);have eX:g=208:=by simpa using hm
 subst eX;exact ⟨fun blk cap zs w hH h1 h2=>Go.Proofs.Tryz.slices_Compact_int blk 0 cap zs w hH h1 h2,fun a cap w=>Go.Proofs.Tryz.slices_Compact_int_empty a cap w⟩
def R302:Rt seat k302:=r302 o302
def R356:Rt seat k356:=r356 (zp zg Tryz.func194 (by kernel_rfl) (by kernel_rfl)) R213 R302 R37 R47
def R362:Rt seat k362:=r362 (zp zg Tryz.func209 (by kernel_rfl) (by kernel_rfl))
def R357:Rt seat k357:=r357 (zp zg Tryz.func195 (by kernel_rfl) (by kernel_rfl)) R362
def R340:Rt seat k340:=r340 (zp zg Tryz.func179 (by kernel_rfl) (by kernel_rfl)) R15 R303 R355 R356 R357
def R315:Rt seat k315:=r315 (zp zg Tryz.func156 (by kernel_rfl) (by kernel_rfl)) R340
def R320:Rt seat k320:=r320 (zp zg Tryz.func120 (by kernel_rfl) (by kernel_rfl)) R14 R315
def R352:Rt seat k352:=r352 (zp zg Tryz.func78 (by kernel_rfl) (by kernel_rfl)) R320
def R349:Rt seat k349:=r349 (zp zg Tryz.func40 (by kernel_rfl) (by kernel_rfl)) R27 R352
def R392:Rt seat k392:=r392 (zp zg Tryz.func66 (by kernel_rfl) (by kernel_rfl))
def R384:Rt seat k384:=r384 (zp zg Tryz.func30 (by kernel_rfl) (by kernel_rfl)) R392
def R394:Rt seat k394:=r394 (zp zg Tryz.func68 (by kernel_rfl) (by kernel_rfl)) R81
def R397_394:Rt seat zcr:=r397_394 (zp zg Tryz.func150 (by kernel_rfl) (by kernel_rfl)) R394
def R400_394:Rt seat zcp:=r400_394 (zp zg Tryz.func192 (by kernel_rfl) (by kernel_rfl))
def R399_394:Rt seat zaZ:=r399_394 (zp zg Tryz.func177 (by kernel_rfl) (by kernel_rfl)) R400_394
def R398_394:Rt seat zcq:=r398_394 (zp zg Tryz.func151 (by kernel_rfl) (by kernel_rfl)) R394 R399_394
def R396_394:Rt seat zcs:=r396_394 (zp zg Tryz.func110 (by kernel_rfl) (by kernel_rfl)) R397_394 R398_394
def R393_394:Rt seat lj:=r393_394 (zp zg Tryz.func67 (by kernel_rfl) (by kernel_rfl)) R396_394
def R386:Rt seat k386:=r386 (zp zg Tryz.func33 (by kernel_rfl) (by kernel_rfl)) R392 R393_394
def R80_61:Rt seat k80_61:=r80_61 (zp zg Tryz.func149 (by kernel_rfl) (by kernel_rfl)) R61
def R73:Rt seat k73:=r73 (zp zg Tryz.func109 (by kernel_rfl) (by kernel_rfl)) R80_61
def R57:Rt seat k57:=r57 (zp zg Tryz.func65 (by kernel_rfl) (by kernel_rfl)) R73
def R382:Rt seat k382:=r382 (zp zg Tryz.func28 (by kernel_rfl) (by kernel_rfl)) R111 R127 R349 R384 R386 R57
def R68:Rt seat k68:=r68 (zp zg Tryz.func62 (by kernel_rfl) (by kernel_rfl))
def R50:Rt seat k50:=r50 (zp zg Tryz.func27 (by kernel_rfl) (by kernel_rfl)) R68
def R373:Rt seat ik:=lH (zp zg Tryz.func6 (by kernel_rfl) (by kernel_rfl)) R382 R50
end Ab.Tryz
