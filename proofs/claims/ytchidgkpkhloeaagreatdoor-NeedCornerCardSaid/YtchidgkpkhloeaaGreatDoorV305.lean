/-
  The seat's program for the abstract machine, and the contracts of all functions that the law reaches: written by program (genlaw.py).
-/
import Derived.Test.YtchidgkpkhloeaaGreatDoorW305
import Derived.Test.YtchidgkpkhloeaaGreatDoorF5
import Derived.Test.YtchidgkpkhloeaaGreatDoorMNw
import Derived.Test.YtchidgkpkhloeaaGreatDoorMLw
import Derived.Test.YtchidgkpkhloeaaGreatDoorD3
open List (all_eq_true)
namespace Ab.Tryz
open Go Go.Proofs
def fns:List (Nat×Nat):=[(3,304),(4,305),(5,306),(6,307),(7,308),(8,309),(9,310),(10,311),(11,312),(12,313),(13,314),(14,68),(15,315),(16,316),(17,92),(18,22),(19,317),(20,318),(21,319),(22,320),(23,321),(24,322),(25,323),(26,104),(27,324),(28,123),(29,325),(30,326),(31,327),(32,328),(33,130),(34,140),(35,329),(36,330),(37,331),(38,8),(39,332),(40,333),(41,110),(42,98),(43,132),(44,334),(45,335),(46,336),(47,337),(48,142),(49,24),(50,128),(51,338),(52,25),(53,339),(54,340),(55,341),(56,105),(57,50),(58,342),(59,58),(60,49),(61,69),(62,59),(63,343),(64,213),(65,344),(66,345),(67,346),(68,94),(69,14),(70,95),(71,247),(72,96),(73,347),(74,100),(75,348),(76,250),(77,102),(78,349),(79,350),(80,351),(81,352),(82,353),(83,30),(84,40),(85,27),(86,113),(87,51),(88,114),(89,122),(90,354),(91,28),(92,106),(93,55),(94,15),(95,355),(96,356),(97,357),(98,303),(99,358),(100,107),(101,44),(102,70),(103,216),(104,217),(105,359),(106,38),(107,39),(108,97),(109,257),(110,240),(111,360),(112,361),(113,60),(114,61),(115,45),(116,125),(117,151),(118,134),(119,243),(120,292),(121,146),(122,71),(123,72),(124,41),(125,42),(126,248),(127,37),(128,47),(129,302),(130,362),(131,363),(135,169),(136,76),(137,218),(138,219),(139,220),(140,221),(141,222),(142,223),(143,224),(144,225),(145,226),(146,227),(147,198),(148,65),(149,262),(150,253),(151,57),(152,298),(153,364),(154,33),(155,74),(156,48),(157,155),(158,150),(159,291),(160,147),(161,148),(162,73),(163,77),(164,78),(165,79),(166,66),(167,67),(168,258),(169,259),(170,241),(171,63),(172,64),(176,228),(177,229),(178,230),(179,231),(180,232),(181,84),(182,274),(183,34),(184,35),(185,81),(186,160),(187,80),(189,83),(190,75),(191,263),(192,264),(193,251),(194,252),(195,233),(196,62),(197,85),(198,275),(199,276),(200,277),(201,278),(202,86),(203,191),(204,283),(205,284),(206,285),(208,167),(209,175),(210,176),(211,181),(212,182),(213,183),(214,184),(215,185),(216,194),(217,195),(218,196),(219,157),(220,203),(221,204),(222,168),(223,177),(224,186),(225,187),(226,188),(227,189),(228,197),(229,199),(230,200),(231,201),(232,205),(233,206),(268,207)]
def tys:List (Nat×Nat):=[(102,1),(262,4)]
noncomputable def seat:Seat:={ P:=Tryz.prog,fns,tys,muts:=[(71,[1001]),(77,[1000]),(78,[1000,1002]),(213,[0]),(302,[1000])],own:=[72,76,79,363,343],more:=[4],hold:=Go.Proofs.TryzStr.hold,holdK:=Go.Proofs.TryzStr.holdK }
theorem zf:qh seat:=zgB (by kernel_rfl)
theorem plainS:Plain seat:=⟨fun _ h=>h,fun _=>trivial⟩
theorem R68:Rt seat k68:=r68 (zC zf Tryz.func14 (by kernel_rfl) (by kernel_rfl))
theorem R50:Rt seat k50:=r50 (zC zf Tryz.func57 (by kernel_rfl) (by kernel_rfl)) R68
theorem R22:Rt seat k22:=r22 (zC zf Tryz.func18 (by kernel_rfl) (by kernel_rfl)) R50
theorem R67:Rt seat k67:=r67 (zC zf Tryz.func167 (by kernel_rfl) (by kernel_rfl))
theorem R75_67:Rt seat k75_67:=r75_67 (zC zf Tryz.func190 (by kernel_rfl) (by kernel_rfl)) R67
theorem R66_67:Rt seat k66_67:=r66_67 (zC zf Tryz.func166 (by kernel_rfl) (by kernel_rfl)) R75_67
theorem R41:Rt seat k41:=r41 (zC zf Tryz.func124 (by kernel_rfl) (by kernel_rfl)) R66_67
theorem R64:Rt seat k64:=r64 (zC zf Tryz.func172 (by kernel_rfl) (by kernel_rfl))
theorem R63_64:Rt seat k63_64:=r63_64 (zC zf Tryz.func171 (by kernel_rfl) (by kernel_rfl)) R64
theorem R37:Rt seat k37:=r37 (zC zf Tryz.func127 (by kernel_rfl) (by kernel_rfl)) R63_64
theorem R42:Rt seat k42:=r42 (zC zf Tryz.func125 (by kernel_rfl) (by kernel_rfl)) R37 R41
theorem R15:Rt seat k15:=r15 (zC zf Tryz.func94 (by kernel_rfl) (by kernel_rfl)) R41 R42
theorem o303:ReachAt seat:=fun g hg=>by
 have hall:only 98 303 fns=true:=by kernel_rfl
 have hm:=all_eq_true.1 hall _ (qD _ _ _ hg);have hg':g=98:=by simpa using hm
 subst hg';exact fun n i v W b hR hs hb=>Go.Proofs.TryzReach.reach_calls hR hs hb
theorem R303:Rt seat k303:=r303 o303
theorem o251:NodeAt seat:=fun g hg=>by
 have hall:only 193 251 fns=true:=by kernel_rfl
 have hm:=all_eq_true.1 hall _ (qD _ _ _ hg);have hg':g=193:=by simpa using hm
 subst hg';refine ⟨124,102,by kernel_rfl,by kernel_rfl,fun T' hT => ?_,fun l lv k x W hk h6 hN hnm=>Go.Proofs.TryzNode.node_calls l lv k x W hk h6 hN hnm⟩;have:=qD _ _ _ hT;simpa[seat,tys] using this
theorem R251:Rt seat k251:=r251 plainS o251 R41
theorem R252:Rt seat k252:=r252 (zC zf Tryz.func194 (by kernel_rfl) (by kernel_rfl))
theorem R241:Rt seat k241:=r241 (zC zf Tryz.func170 (by kernel_rfl) (by kernel_rfl)) R251 R252
theorem o248:ParseAt seat:=fun g hg=>by
 have hall:only 126 248 fns=true:=by kernel_rfl
 have hm:=all_eq_true.1 hall _ (qD _ _ _ hg);have hg':g=126:=by simpa using hm
 subst hg'
 exact ⟨170,102,by kernel_rfl,by kernel_rfl,fun s W h=>Go.Proofs.TryzRead.parse_long s h W,fun s f b W hs hr=>Go.Proofs.TryzRead.parse_bad s hs f b hr W,fun s f i b l W hs hr hb=>Go.Proofs.TryzRead.parse_short s hs f i b l hr hb W,
  fun s f i b l W R hs hr hb hR hck=>Go.Proofs.TryzRead.parse_check s hs f i b l hr hb W R hR hck,fun s f i b l W hs hr hb hck=>Go.Proofs.TryzRead.parse_done s hs f i b l hr hb W hck⟩
theorem R248:Rt seat k248:=r248 plainS o248 R241
theorem R355:Rt seat k355:=r355 (zC zf Tryz.func95 (by kernel_rfl) (by kernel_rfl)) R248
theorem o213:zgJ seat:=fun g hg=>by
 have hall:only 64 213 fns=true:=by kernel_rfl
 have hm:=all_eq_true.1 hall _ (qD _ _ _ hg);have hg':g=64:=by simpa using hm
 subst hg';exact ⟨fun blk cap ss w hH hb hs=>Go.Proofs.Tryz.slices_Sort_int blk 0 cap ss w hH hb hs,fun p cap w=>Go.Proofs.Tryz.slices_Sort_int_none p cap w⟩
theorem R213:Rt seat k213:=r213 o213
theorem o302:CompIAt seat:=fun g hg=>by
 have hall:only 129 302 fns=true:=by kernel_rfl
 have hm:=all_eq_true.1 hall _ (qD _ _ _ hg);have hg':g=129:=by simpa using hm
 subst hg';exact ⟨fun blk cap zs w hH h1 h2=>Go.Proofs.Tryz.slices_Compact_int blk 0 cap zs w hH h1 h2,fun a cap w=>Go.Proofs.Tryz.slices_Compact_int_empty a cap w⟩
theorem R302:Rt seat k302:=r302 o302
theorem R47:Rt seat k47:=r47 (zC zf Tryz.func128 (by kernel_rfl) (by kernel_rfl))
theorem R356:Rt seat k356:=r356 (zC zf Tryz.func96 (by kernel_rfl) (by kernel_rfl)) R213 R302 R37 R47
theorem R362:Rt seat k362:=r362 (zC zf Tryz.func130 (by kernel_rfl) (by kernel_rfl))
theorem R357:Rt seat k357:=r357 (zC zf Tryz.func97 (by kernel_rfl) (by kernel_rfl)) R362
theorem R340:Rt seat k340:=r340 (zC zf Tryz.func54 (by kernel_rfl) (by kernel_rfl)) R15 R303 R355 R356 R357
theorem R39:Rt seat k39:=r39 (zC zf Tryz.func107 (by kernel_rfl) (by kernel_rfl))
theorem R65_39:Rt seat k65_39:=r65_39 (zC zf Tryz.func148 (by kernel_rfl) (by kernel_rfl)) R39
theorem R38_39:Rt seat k38_39:=r38_39 (zC zf Tryz.func106 (by kernel_rfl) (by kernel_rfl)) R65_39
theorem R40:Rt seat k40:=r40 (zC zf Tryz.func84 (by kernel_rfl) (by kernel_rfl))
theorem R14:Rt seat k14:=r14 (zC zf Tryz.func69 (by kernel_rfl) (by kernel_rfl)) R15 R38_39 R40
theorem R51:Rt seat k51:=r51 (zC zf Tryz.func87 (by kernel_rfl) (by kernel_rfl)) R14
theorem R342:Rt seat k342:=r342 (zC zf Tryz.func58 (by kernel_rfl) (by kernel_rfl)) R340 R51
theorem R58:Rt seat k58:=r58 (zC zf Tryz.func59 (by kernel_rfl) (by kernel_rfl))
theorem R49:Rt seat k49:=r49 (zC zf Tryz.func60 (by kernel_rfl) (by kernel_rfl))
theorem R69:Rt seat k69:=r69 (zC zf Tryz.func61 (by kernel_rfl) (by kernel_rfl))
theorem R44:Rt seat k44:=r44 (zC zf Tryz.func101 (by kernel_rfl) (by kernel_rfl)) R47
theorem R59:Rt seat k59:=r59 (zC zf Tryz.func62 (by kernel_rfl) (by kernel_rfl)) R44
theorem R353:Rt seat k353:=r353 (zC zf Tryz.func82 (by kernel_rfl) (by kernel_rfl)) R44
theorem R76:Rt seat k76:=r76 (zC zf Tryz.func136 (by kernel_rfl) (by kernel_rfl))
theorem R70:Rt seat k70:=r70 (zC zf Tryz.func102 (by kernel_rfl) (by kernel_rfl)) R76
theorem R343:Rt seat k343:=r343 (zC zf Tryz.func63 (by kernel_rfl) (by kernel_rfl)) R353 R49 R70
theorem o317:LeafsAt seat:=fun g hg=>by
 have hall:only 19 317 fns=true:=by kernel_rfl
 have hm:=all_eq_true.1 hall _ (qD _ _ _ hg);have hg':g=19:=by simpa using hm
 subst hg';exact ⟨58,59,60,61,62,63,64,by kernel_rfl,by kernel_rfl,by kernel_rfl,by kernel_rfl,by kernel_rfl,by kernel_rfl,by kernel_rfl,fun h1 h2 h3 h4 h5 h6 h7 h8 h9 h10 h11 h12=>Go.Proofs.TryzLeafs.leafs_walk h1 h2 h3 h4 h5 h6 h7 h8 h9 h10 h11 h12,fun h1 h2=>Go.Proofs.TryzLeafs.leafs_err1 h1 h2,fun h1 h2 h3=>Go.Proofs.TryzLeafs.leafs_err2 h1 h2 h3⟩
theorem R317:Rt seat k317:=r317 plainS R342 R58 R49 R69 R59 R343 o213 o317
theorem R343s:Rt seat k343s:=r343s R343
theorem R344:Rt seat k344:=r344 (zC zf Tryz.func65 (by kernel_rfl) (by kernel_rfl)) R342 R343s R40 R69
theorem R346:Rt seat k346:=r346 (zC zf Tryz.func67 (by kernel_rfl) (by kernel_rfl))
theorem R359_346:Rt seat zd2:=r359_346 (zC zf Tryz.func105 (by kernel_rfl) (by kernel_rfl)) R346
theorem R345_346:Rt seat zd3:=r345_346 (zC zf Tryz.func66 (by kernel_rfl) (by kernel_rfl)) R359_346
theorem R318:Rt seat k318:=r318 (zC zf Tryz.func20 (by kernel_rfl) (by kernel_rfl)) R344 R345_346 R49 R58 R59
theorem R305:Rt seat k305:=r305 (zC zf Tryz.func4 (by kernel_rfl) (by kernel_rfl)) R22 R317 R318
end Ab.Tryz
