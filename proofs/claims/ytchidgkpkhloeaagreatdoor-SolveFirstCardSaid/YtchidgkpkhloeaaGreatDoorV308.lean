/-
  The seat's program for the abstract machine, and the contracts of all functions that the law reaches: written by program (genlaw.py).
-/
import Derived.Test.YtchidgkpkhloeaaGreatDoorHB
import Derived.Test.YtchidgkpkhloeaaGreatDoorHF
import Derived.Test.YtchidgkpkhloeaaGreatDoorHD
import Derived.Test.YtchidgkpkhloeaaGreatDoorHC
import Derived.Test.YtchidgkpkhloeaaGreatDoorH7
import Derived.Test.YtchidgkpkhloeaaGreatDoorF1
import Derived.Test.YtchidgkpkhloeaaGreatDoorC2
import Derived.Test.YtchidgkpkhloeaaGreatDoorF2
import Derived.Test.YtchidgkpkhloeaaGreatDoorW308
import Derived.Test.YtchidgkpkhloeaaGreatDoorF5
import Derived.Test.YtchidgkpkhloeaaGreatDoorMWr
import Derived.Test.YtchidgkpkhloeaaGreatDoorF6
import Derived.Test.YtchidgkpkhloeaaGreatDoorMNw
import Derived.Test.YtchidgkpkhloeaaGreatDoorHG
import Derived.Test.YtchidgkpkhloeaaGreatDoorD2
import Derived.Test.YtchidgkpkhloeaaGreatDoorRows
import Derived.KernelRfl
namespace Ab.Tryz
open Go Go.Proofs
def fns:List (Nat×Nat):=[(3,304),(4,305),(5,306),(6,307),(7,308),(8,309),(9,310),(10,311),(11,312),(12,313),(13,314),(14,68),(15,315),(16,316),(17,92),(18,22),(19,317),(20,318),(21,319),(22,320),(23,321),(24,322),(25,323),(26,104),(27,324),(28,123),(29,325),(30,326),(31,327),(32,328),(33,130),(34,140),(35,329),(36,330),(37,331),(38,8),(39,332),(40,333),(41,110),(42,98),(43,132),(44,334),(45,335),(46,336),(47,337),(48,142),(49,24),(50,128),(51,338),(52,25),(53,339),(54,340),(55,341),(56,105),(57,50),(58,342),(59,58),(60,49),(61,69),(62,59),(63,343),(64,213),(65,344),(66,345),(67,346),(68,94),(69,14),(70,95),(71,247),(72,96),(73,347),(74,100),(75,348),(76,250),(77,102),(78,349),(79,350),(80,351),(81,352),(82,353),(83,30),(84,40),(85,27),(86,113),(87,51),(88,114),(89,122),(90,354),(91,28),(92,106),(93,55),(94,15),(95,355),(96,356),(97,357),(98,303),(99,358),(100,107),(101,44),(102,70),(103,216),(104,217),(105,359),(106,38),(107,39),(108,97),(109,257),(110,240),(111,360),(112,361),(113,60),(114,61),(115,45),(116,125),(117,151),(118,134),(119,243),(120,292),(121,146),(122,71),(123,72),(124,41),(125,42),(126,248),(127,37),(128,47),(129,302),(130,362),(131,363),(135,169),(136,76),(137,218),(138,219),(139,220),(140,221),(141,222),(142,223),(143,224),(144,225),(145,226),(146,227),(147,198),(148,65),(149,262),(150,253),(151,57),(152,298),(153,364),(154,33),(155,74),(156,48),(157,155),(158,150),(159,291),(160,147),(161,148),(162,73),(163,77),(164,78),(165,79),(166,66),(167,67),(168,258),(169,259),(170,241),(171,63),(172,64),(176,228),(177,229),(178,230),(179,231),(180,232),(181,84),(182,274),(183,34),(184,35),(185,81),(186,160),(187,80),(189,83),(190,75),(191,263),(192,264),(193,251),(194,252),(195,233),(196,62),(197,85),(198,275),(199,276),(200,277),(201,278),(202,86),(203,191),(204,283),(205,284),(206,285),(208,167),(209,175),(210,176),(211,181),(212,182),(213,183),(214,184),(215,185),(216,194),(217,195),(218,196),(219,157),(220,203),(221,204),(222,168),(223,177),(224,186),(225,187),(226,188),(227,189),(228,197),(229,199),(230,200),(231,201),(232,205),(233,206),(268,207)]
def tys:List (Nat×Nat):=[(102,1),(262,4)]
noncomputable def seat:Seat:={ P:=Tryz.prog,fns,tys,muts:=[(71,[1001]),(77,[1000]),(78,[1000,1002]),(213,[0]),(302,[1000])],own:=[72,76,79,363,343],more:=[4],hold:=Go.Proofs.TryzStr.hold,holdK:=Go.Proofs.TryzStr.holdK }
theorem callable:Callable seat:=callable_of (by kernel_rfl)
theorem plainS:Plain seat:=⟨fun _ h=>h,fun _=>trivial⟩
theorem o67:Ok1 seat 67 tf67:=ok1_of callable Tryz.func167 (by kernel_rfl) (by kernel_rfl)
theorem R67:Rt seat k67:=r67 o67
theorem o75:Ok1 seat 75 tf75:=ok1_of callable Tryz.func190 (by kernel_rfl) (by kernel_rfl)
theorem R75_67:Rt seat k75_67:=r75_67 o75 R67
theorem o66:Ok1 seat 66 tf66:=ok1_of callable Tryz.func166 (by kernel_rfl) (by kernel_rfl)
theorem R66_67:Rt seat k66_67:=r66_67 o66 R75_67
theorem o41:Ok1 seat 41 tf41:=ok1_of callable Tryz.func124 (by kernel_rfl) (by kernel_rfl)
theorem R41:Rt seat k41:=r41 o41 R66_67
theorem o64:Ok1 seat 64 tf64:=ok1_of callable Tryz.func172 (by kernel_rfl) (by kernel_rfl)
theorem R64:Rt seat k64:=r64 o64
theorem o63:Ok1 seat 63 tf63:=ok1_of callable Tryz.func171 (by kernel_rfl) (by kernel_rfl)
theorem R63_64:Rt seat k63_64:=r63_64 o63 R64
theorem o37:Ok1 seat 37 tf37:=ok1_of callable Tryz.func127 (by kernel_rfl) (by kernel_rfl)
theorem R37:Rt seat k37:=r37 o37 R63_64
theorem o42:Ok1 seat 42 tf42:=ok1_of callable Tryz.func125 (by kernel_rfl) (by kernel_rfl)
theorem R42:Rt seat k42:=r42 o42 R37 R41
theorem o15:Ok1 seat 15 tf15:=ok1_of callable Tryz.func94 (by kernel_rfl) (by kernel_rfl)
theorem R15:Rt seat k15:=r15 o15 R41 R42
theorem o39:Ok1 seat 39 tf39:=ok1_of callable Tryz.func107 (by kernel_rfl) (by kernel_rfl)
theorem R39:Rt seat k39:=r39 o39
theorem o65:Ok1 seat 65 tf65:=ok1_of callable Tryz.func148 (by kernel_rfl) (by kernel_rfl)
theorem R65_39:Rt seat k65_39:=r65_39 o65 R39
theorem o38:Ok1 seat 38 tf38:=ok1_of callable Tryz.func106 (by kernel_rfl) (by kernel_rfl)
theorem R38_39:Rt seat k38_39:=r38_39 o38 R65_39
theorem o40:Ok1 seat 40 tf40:=ok1_of callable Tryz.func84 (by kernel_rfl) (by kernel_rfl)
theorem R40:Rt seat k40:=r40 o40
theorem o14:Ok1 seat 14 tf14:=ok1_of callable Tryz.func69 (by kernel_rfl) (by kernel_rfl)
theorem R14:Rt seat k14:=r14 o14 R15 R38_39 R40
theorem o51:Ok1 seat 51 tf51:=ok1_of callable Tryz.func87 (by kernel_rfl) (by kernel_rfl)
theorem R51:Rt seat k51:=r51 o51 R14
theorem o58:Ok1 seat 58 tf58:=ok1_of callable Tryz.func59 (by kernel_rfl) (by kernel_rfl)
theorem R58:Rt seat k58:=r58 o58
theorem o47:Ok1 seat 47 tf47:=ok1_of callable Tryz.func128 (by kernel_rfl) (by kernel_rfl)
theorem R47:Rt seat k47:=r47 o47
theorem o44:Ok1 seat 44 tf44:=ok1_of callable Tryz.func101 (by kernel_rfl) (by kernel_rfl)
theorem R44:Rt seat k44:=r44 o44 R47
theorem o59:Ok1 seat 59 tf59:=ok1_of callable Tryz.func62 (by kernel_rfl) (by kernel_rfl)
theorem R59:Rt seat k59:=r59 o59 R44
theorem o60:Ok1 seat 60 tf60:=ok1_of callable Tryz.func113 (by kernel_rfl) (by kernel_rfl)
theorem R60:Rt seat k60:=r60 o60
theorem o84:Ok1 seat 84 tf84:=ok1_of callable Tryz.func181 (by kernel_rfl) (by kernel_rfl)
theorem R84:Rt seat k84:=r84 o84
theorem o81:Ok1 seat 81 tf81:=ok1_of callable Tryz.func185 (by kernel_rfl) (by kernel_rfl)
theorem R81:Rt seat k81:=r81 o81 R84
theorem o74:Ok1 seat 74 tf74:=ok1_of callable Tryz.func155 (by kernel_rfl) (by kernel_rfl)
theorem R74:Rt seat k74:=r74 o74 R81
theorem o61:Ok1 seat 61 tf61:=ok1_of callable Tryz.func114 (by kernel_rfl) (by kernel_rfl)
theorem R61:Rt seat k61:=r61 o61 R74
theorem o27:Ok1 seat 27 tf27:=ok1_of callable Tryz.func85 (by kernel_rfl) (by kernel_rfl)
theorem R27:Rt seat k27:=r27 o27 R51 R58 R59 R60 R61
theorem o303:ReachAt seat:=fun g hg=>by
 have hall:only 98 303 fns=true:=by kernel_rfl
 have hm:=List.all_eq_true.1 hall _ (assoc_mem _ _ _ hg)
 have hg':g=98:=by simpa using hm
 subst hg'
 exact fun n i v W b hR hs hb=>Go.Proofs.TryzReach.reach_calls hR hs hb
theorem R303:Rt seat k303:=r303 o303
theorem o251:NodeAt seat:=fun g hg=>by
 have hall:only 193 251 fns=true:=by kernel_rfl
 have hm:=List.all_eq_true.1 hall _ (assoc_mem _ _ _ hg)
 have hg':g=193:=by simpa using hm
 subst hg'
 refine ⟨124,102,by kernel_rfl,by kernel_rfl,fun T' hT => ?_,fun l lv k x W hk h6 hN hnm=>Go.Proofs.TryzNode.node_calls l lv k x W hk h6 hN hnm⟩
 have:=assoc_mem _ _ _ hT
 simpa [seat,tys] using this
theorem R251:Rt seat k251:=r251 plainS o251 R41
theorem o252:Ok1 seat 252 tf252:=ok1_of callable Tryz.func194 (by kernel_rfl) (by kernel_rfl)
theorem R252:Rt seat k252:=r252 o252
theorem o241:Ok1 seat 241 tf241:=ok1_of callable Tryz.func170 (by kernel_rfl) (by kernel_rfl)
theorem R241:Rt seat k241:=r241 o241 R251 R252
theorem o248:ParseAt seat:=fun g hg=>by
 have hall:only 126 248 fns=true:=by kernel_rfl
 have hm:=List.all_eq_true.1 hall _ (assoc_mem _ _ _ hg)
 have hg':g=126:=by simpa using hm
 subst hg'
 exact ⟨170,102,by kernel_rfl,by kernel_rfl,fun s W h=>Go.Proofs.TryzRead.parse_long s h W,fun s f b W hs hr=>Go.Proofs.TryzRead.parse_bad s hs f b hr W,fun s f i b l W hs hr hb=>Go.Proofs.TryzRead.parse_short s hs f i b l hr hb W,
  fun s f i b l W R hs hr hb hR hck=>Go.Proofs.TryzRead.parse_check s hs f i b l hr hb W R hR hck,fun s f i b l W hs hr hb hck=>Go.Proofs.TryzRead.parse_done s hs f i b l hr hb W hck⟩
theorem R248:Rt seat k248:=r248 plainS o248 R241
theorem o355:Ok1 seat 355 tf355:=ok1_of callable Tryz.func95 (by kernel_rfl) (by kernel_rfl)
theorem R355:Rt seat k355:=r355 o355 R248
theorem o213:SortIAt seat:=fun g hg=>by
 have hall:only 64 213 fns=true:=by kernel_rfl
 have hm:=List.all_eq_true.1 hall _ (assoc_mem _ _ _ hg)
 have hg':g=64:=by simpa using hm
 subst hg'
 exact ⟨fun blk cap ss w hH hb hs=>Go.Proofs.Tryz.slices_Sort_int blk 0 cap ss w hH hb hs,fun p cap w=>Go.Proofs.Tryz.slices_Sort_int_none p cap w⟩
theorem R213:Rt seat k213:=r213 o213
theorem o302:CompIAt seat:=fun g hg=>by
 have hall:only 129 302 fns=true:=by kernel_rfl
 have hm:=List.all_eq_true.1 hall _ (assoc_mem _ _ _ hg)
 have hg':g=129:=by simpa using hm
 subst hg'
 exact ⟨fun blk cap zs w hH h1 h2=>Go.Proofs.Tryz.slices_Compact_int blk 0 cap zs w hH h1 h2,fun a cap w=>Go.Proofs.Tryz.slices_Compact_int_empty a cap w⟩
theorem R302:Rt seat k302:=r302 o302
theorem o356:Ok1 seat 356 tf356:=ok1_of callable Tryz.func96 (by kernel_rfl) (by kernel_rfl)
theorem R356:Rt seat k356:=r356 o356 R213 R302 R37 R47
theorem o362:Ok1 seat 362 tf362:=ok1_of callable Tryz.func130 (by kernel_rfl) (by kernel_rfl)
theorem R362:Rt seat k362:=r362 o362
theorem o357:Ok1 seat 357 tf357:=ok1_of callable Tryz.func97 (by kernel_rfl) (by kernel_rfl)
theorem R357:Rt seat k357:=r357 o357 R362
theorem o340:Ok1 seat 340 tf340:=ok1_of callable Tryz.func54 (by kernel_rfl) (by kernel_rfl)
theorem R340:Rt seat k340:=r340 o340 R15 R303 R355 R356 R357
theorem o315:Ok1 seat 315 tf315:=ok1_of callable Tryz.func15 (by kernel_rfl) (by kernel_rfl)
theorem R315:Rt seat k315:=r315 o315 R340
theorem o320:Ok1 seat 320 tf320:=ok1_of callable Tryz.func22 (by kernel_rfl) (by kernel_rfl)
theorem R320:Rt seat k320:=r320 o320 R14 R315
theorem o352:Ok1 seat 352 tf352:=ok1_of callable Tryz.func81 (by kernel_rfl) (by kernel_rfl)
theorem R352:Rt seat k352:=r352 o352 R320
theorem o349:Ok1 seat 349 tf349:=ok1_of callable Tryz.func78 (by kernel_rfl) (by kernel_rfl)
theorem R349:Rt seat k349:=r349 o349 R27 R352
theorem o353:Ok1 seat 353 tf353:=ok1_of callable Tryz.func82 (by kernel_rfl) (by kernel_rfl)
theorem R353:Rt seat k353:=r353 o353 R44
theorem o30:Ok1 seat 30 tf30:=ok1_of callable Tryz.func83 (by kernel_rfl) (by kernel_rfl)
theorem R30:Rt seat k30:=r30 o30
theorem o8:Ok1 seat 8 tf8:=ok1_of callable Tryz.func38 (by kernel_rfl) (by kernel_rfl)
theorem R8:Rt seat k8:=r8 o8 R30
section
variable (J:JP)
theorem callJ:Callable (seatJ seat J):=callable
theorem oJ49:Ok1 (seatJ seat J) 49 tf49:=ok1_of (callJ J) Tryz.func60 (by kernel_rfl) (by kernel_rfl)
theorem RJ49:Rt (seatJ seat J) k49:=r49 (oJ49 J)
theorem oJ47:Ok1 (seatJ seat J) 47 tf47:=ok1_of (callJ J) Tryz.func128 (by kernel_rfl) (by kernel_rfl)
theorem RJ47:Rt (seatJ seat J) k47:=r47 (oJ47 J)
theorem oJ44:Ok1 (seatJ seat J) 44 tf44:=ok1_of (callJ J) Tryz.func101 (by kernel_rfl) (by kernel_rfl)
theorem RJ44:Rt (seatJ seat J) k44:=r44 (oJ44 J) (RJ47 J)
theorem oJ353:Ok1 (seatJ seat J) 353 tf353:=ok1_of (callJ J) Tryz.func82 (by kernel_rfl) (by kernel_rfl)
theorem RJ353:Rt (seatJ seat J) k353:=r353 (oJ353 J) (RJ44 J)
theorem oJ84:Ok1 (seatJ seat J) 84 tf84:=ok1_of (callJ J) Tryz.func181 (by kernel_rfl) (by kernel_rfl)
theorem RJ84:Rt (seatJ seat J) k84:=r84 (oJ84 J)
theorem oJ81:Ok1 (seatJ seat J) 81 tf81:=ok1_of (callJ J) Tryz.func185 (by kernel_rfl) (by kernel_rfl)
theorem RJ81:Rt (seatJ seat J) k81:=r81 (oJ81 J) (RJ84 J)
theorem oJ74:Ok1 (seatJ seat J) 74 tf74:=ok1_of (callJ J) Tryz.func155 (by kernel_rfl) (by kernel_rfl)
theorem RJ74:Rt (seatJ seat J) k74:=r74 (oJ74 J) (RJ81 J)
theorem oJ61:Ok1 (seatJ seat J) 61 tf61:=ok1_of (callJ J) Tryz.func114 (by kernel_rfl) (by kernel_rfl)
theorem RJ61:Rt (seatJ seat J) k61:=r61 (oJ61 J) (RJ74 J)
theorem oJ80:Ok1 (seatJ seat J) 80 tf80:=ok1_of (callJ J) Tryz.func187 (by kernel_rfl) (by kernel_rfl)
theorem RJ80_61:Rt (seatJ seat J) k80_61:=r80_61 (oJ80 J) (RJ61 J)
theorem oJ73:Ok1 (seatJ seat J) 73 tf73:=ok1_of (callJ J) Tryz.func162 (by kernel_rfl) (by kernel_rfl)
theorem RJ73:Rt (seatJ seat J) k73:=r73 (oJ73 J) (RJ80_61 J)
theorem oJ57:Ok1 (seatJ seat J) 57 tf57:=ok1_of (callJ J) Tryz.func151 (by kernel_rfl) (by kernel_rfl)
theorem RJ57:Rt (seatJ seat J) k57:=r57 (oJ57 J) (RJ73 J)
theorem oJ76:Ok1 (seatJ seat J) 76 tf76:=ok1_of (callJ J) Tryz.func136 (by kernel_rfl) (by kernel_rfl)
theorem RJ76:Rt (seatJ seat J) k76:=r76 (oJ76 J)
theorem oJ70:Ok1 (seatJ seat J) 70 tf70:=ok1_of (callJ J) Tryz.func102 (by kernel_rfl) (by kernel_rfl)
theorem RJ70:Rt (seatJ seat J) k70:=r70 (oJ70 J) (RJ76 J)
theorem oJ30:Ok1 (seatJ seat J) 30 tf30:=ok1_of (callJ J) Tryz.func83 (by kernel_rfl) (by kernel_rfl)
theorem RJ30:Rt (seatJ seat J) k30:=r30 (oJ30 J)
theorem oJ8:Ok1 (seatJ seat J) 8 tf8:=ok1_of (callJ J) Tryz.func38 (by kernel_rfl) (by kernel_rfl)
theorem RJ8:Rt (seatJ seat J) k8:=r8 (oJ8 J) (RJ30 J)
theorem oJ33:Ok1 (seatJ seat J) 33 tf33:=ok1_of (callJ J) Tryz.func154 (by kernel_rfl) (by kernel_rfl)
theorem RJ33:Rt (seatJ seat J) k33:=r33 (oJ33 J) (RJ8 J)
theorem oJ62:Ok1 (seatJ seat J) 62 tf62:=ok1_of (callJ J) Tryz.func196 (by kernel_rfl) (by kernel_rfl)
theorem RJ62:Rt (seatJ seat J) k62:=r62 (oJ62 J)
theorem oJ34:Ok1 (seatJ seat J) 34 tf34:=ok1_of (callJ J) Tryz.func183 (by kernel_rfl) (by kernel_rfl)
theorem RJ34:Rt (seatJ seat J) k34:=r34 (oJ34 J) (RJ62 J) (RJ8 J)
theorem oJ35:Ok1 (seatJ seat J) 35 tf35:=ok1_of (callJ J) Tryz.func184 (by kernel_rfl) (by kernel_rfl)
theorem RJ35:Rt (seatJ seat J) k35:=r35 (oJ35 J) (RJ8 J)
theorem oJ64:Ok1 (seatJ seat J) 64 tf64:=ok1_of (callJ J) Tryz.func172 (by kernel_rfl) (by kernel_rfl)
theorem RJ64:Rt (seatJ seat J) k64:=r64 (oJ64 J)
theorem oJ63:Ok1 (seatJ seat J) 63 tf63:=ok1_of (callJ J) Tryz.func171 (by kernel_rfl) (by kernel_rfl)
theorem RJ63_64:Rt (seatJ seat J) k63_64:=r63_64 (oJ63 J) (RJ64 J)
theorem oJ37:Ok1 (seatJ seat J) 37 tf37:=ok1_of (callJ J) Tryz.func127 (by kernel_rfl) (by kernel_rfl)
theorem RJ37:Rt (seatJ seat J) k37:=r37 (oJ37 J) (RJ63_64 J)
theorem oJ40:Ok1 (seatJ seat J) 40 tf40:=ok1_of (callJ J) Tryz.func84 (by kernel_rfl) (by kernel_rfl)
theorem RJ40:Rt (seatJ seat J) k40:=r40 (oJ40 J)
theorem oJ69:Ok1 (seatJ seat J) 69 tf69:=ok1_of (callJ J) Tryz.func61 (by kernel_rfl) (by kernel_rfl)
theorem RJ69:Rt (seatJ seat J) k69:=r69 (oJ69 J)
theorem oJ364:Ok1 (seatJ seat J) 364 tf364:=ok1_of (callJ J) Tryz.func153 (by kernel_rfl) (by kernel_rfl)
theorem oJ298:Ok1 (seatJ seat J) 298 tf298:=ok1_of (callJ J) Tryz.func152 (by kernel_rfl) (by kernel_rfl)
theorem oJ361:Ok1 (seatJ seat J) 361 tf361:=ok1_of (callJ J) Tryz.func112 (by kernel_rfl) (by kernel_rfl)
theorem atJ:AtAt (seatJ seat J) J:=fun g hg=>by
 have hall:only 80 351 fns=true:=by kernel_rfl
 have hm:=List.all_eq_true.1 hall _ (assoc_mem _ _ _ hg)
 have hg':g=80:=by simpa using hm
 subst hg'
 exact ⟨60,112,by kernel_rfl,by kernel_rfl,fun hb h1 h2 h3 h4 h5 h6 h7 h8 h9 h10 h11=>Go.Proofs.TryzSolve.at_calls hb h1 h2 h3 h4 h5 h6 h7 h8 h9 h10 h11⟩
theorem R351n (hok:JOk J):∀ n,Rt (seatJ seat J) (k351 J n):=r351 hok (atJ J) (RJ49 J) fun _ h=>r361 (oJ361 J) (r298_364 (oJ298 J) (RJ33 J) (RJ34 J) (RJ35 J) (r364 (oJ364 J) h (RJ37 J) (RJ70 J)) (RJ8 J)) (RJ33 J) h (RJ353 J) (RJ47 J) (RJ57 J) (RJ70 J)
theorem knows (hok:JOk J):JKnows seat J:=⟨r351w (R351n J hok),RJ40 J,RJ69 J⟩
end
theorem o330:ValueAt seat:=fun g hg=>by
 have hall:only 36 330 fns=true:=by kernel_rfl
 have hm:=List.all_eq_true.1 hall _ (assoc_mem _ _ _ hg)
 have hg':g=36:=by simpa using hm
 subst hg'
 exact ⟨78,59,79,80,Tryz.f79,by kernel_rfl,by kernel_rfl,by kernel_rfl,Tryz.func79,by kernel_rfl,rfl,fun h1 h2 h3 h4 h5=>Go.Proofs.TryzSolve.value_walk h1 h2 h3 h4 h5,fun h1 h2=>Go.Proofs.TryzSolve.value_err1 h1 h2,fun h1 h2 h3=>Go.Proofs.TryzSolve.value_err2 h1 h2 h3⟩
theorem R330:Rt seat k330:=r330 callable plainS R355 R40 R349 R58 knows o330
theorem o331:Ok1 seat 331 tf331:=ok1_of callable Tryz.func37 (by kernel_rfl) (by kernel_rfl)
theorem R331:Rt seat k331:=r331 o331 R352 R353 R58
theorem o308:Ok1 seat 308 tf308:=ok1_of callable Tryz.func7 (by kernel_rfl) (by kernel_rfl)
theorem R308:Rt seat k308:=r308 o308 R330 R331 R8
end Ab.Tryz
