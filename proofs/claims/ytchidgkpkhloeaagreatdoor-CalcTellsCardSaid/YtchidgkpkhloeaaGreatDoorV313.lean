/-
  The seat's program for the abstract machine, and the contracts of all functions that the law reaches: written by program (genlaw.py).
-/
import Derived.Test.YtchidgkpkhloeaaGreatDoorW313
import Derived.Test.YtchidgkpkhloeaaGreatDoorF5
import Derived.Test.YtchidgkpkhloeaaGreatDoorHG
import Derived.Test.YtchidgkpkhloeaaGreatDoorMNw
import Derived.Test.YtchidgkpkhloeaaGreatDoorMDv
open List (all_eq_true)
set_option linter.all false
namespace Ab.Tryz
open Go Go.Proofs
def fns:List (Nat×Nat):=[(3,304),(4,305),(5,306),(6,307),(7,308),(8,309),(9,310),(10,311),(11,312),(12,313),(13,314),(14,68),(15,315),(16,316),(17,92),(18,22),(19,317),(20,318),(21,319),(22,320),(23,321),(24,322),(25,323),(26,104),(27,324),(28,123),(29,325),(30,326),(31,327),(32,328),(33,130),(34,140),(35,329),(36,330),(37,331),(38,8),(39,332),(40,333),(41,110),(42,98),(43,132),(44,334),(45,335),(46,336),(47,337),(48,142),(49,24),(50,128),(51,338),(52,25),(53,339),(54,340),(55,341),(56,105),(57,50),(58,342),(59,58),(60,49),(61,69),(62,59),(63,343),(64,213),(65,344),(66,345),(67,346),(68,94),(69,14),(70,95),(71,247),(72,96),(73,347),(74,100),(75,348),(76,250),(77,102),(78,349),(79,350),(80,351),(81,352),(82,353),(83,30),(84,40),(85,27),(86,113),(87,51),(88,114),(89,122),(90,354),(91,28),(92,106),(93,55),(94,15),(95,355),(96,356),(97,357),(98,303),(99,358),(100,107),(101,44),(102,70),(103,216),(104,217),(105,359),(106,38),(107,39),(108,97),(109,257),(110,240),(111,360),(112,361),(113,60),(114,61),(115,45),(116,125),(117,151),(118,134),(119,243),(120,292),(121,146),(122,71),(123,72),(124,41),(125,42),(126,248),(127,37),(128,47),(129,302),(130,362),(131,363),(135,169),(136,76),(137,218),(138,219),(139,220),(140,221),(141,222),(142,223),(143,224),(144,225),(145,226),(146,227),(147,198),(148,65),(149,262),(150,253),(151,57),(152,298),(153,364),(154,33),(155,74),(156,48),(157,155),(158,150),(159,291),(160,147),(161,148),(162,73),(163,77),(164,78),(165,79),(166,66),(167,67),(168,258),(169,259),(170,241),(171,63),(172,64),(176,228),(177,229),(178,230),(179,231),(180,232),(181,84),(182,274),(183,34),(184,35),(185,81),(186,160),(187,80),(189,83),(190,75),(191,263),(192,264),(193,251),(194,252),(195,233),(196,62),(197,85),(198,275),(199,276),(200,277),(201,278),(202,86),(203,191),(204,283),(205,284),(206,285),(208,167),(209,175),(210,176),(211,181),(212,182),(213,183),(214,184),(215,185),(216,194),(217,195),(218,196),(219,157),(220,203),(221,204),(222,168),(223,177),(224,186),(225,187),(226,188),(227,189),(228,197),(229,199),(230,200),(231,201),(232,205),(233,206),(268,207)]
def tys:List (Nat×Nat):=[(102,1),(262,4)]
noncomputable def seat:Seat:={ P:=Tryz.prog,fns,tys,muts:=[(71,[1001]),(77,[1000]),(78,[1000,1002]),(213,[0]),(302,[1000])],own:=[72,76,79,363,343],glob:=[(0,Go.Proofs.Tryztold.handle)],more:=[4],hold:=Go.Proofs.TryzStr.hold,holdK:=Go.Proofs.TryzStr.holdK }
def zb:qh seat:=ziN (by kernel_rfl)
def zju:Plain seat:=⟨fun _ h=>h,fun _=>trivial⟩
def R104:Rt seat iF:=rj (zj zb Tryz.func26 (by kernel_rfl) (by kernel_rfl))
def R28:Rt seat ru:=r28 (zj zb Tryz.func91 (by kernel_rfl) (by kernel_rfl))
def R128:Rt seat iB:=pY (zj zb Tryz.func50 (by kernel_rfl) (by kernel_rfl)) R28
def R142:Rt seat eT:=pU (zj zb Tryz.func48 (by kernel_rfl) (by kernel_rfl))
def R24:Rt seat ry:=r24 (zj zb Tryz.func49 (by kernel_rfl) (by kernel_rfl))
def R322:Rt seat iq:=pE (zj zb Tryz.func24 (by kernel_rfl) (by kernel_rfl))
def R100:Rt seat eU:=rm (zj zb Tryz.func74 (by kernel_rfl) (by kernel_rfl))
def R97:Rt seat oe:=r97 (zj zb Tryz.func108 (by kernel_rfl) (by kernel_rfl))
def R240:Rt seat iw:=pM (zj zb Tryz.func110 (by kernel_rfl) (by kernel_rfl)) R97
def o247:ReadAt seat:=fun g hg=>by
 have hall:only 71 247 fns=true:=by kernel_rfl
 have hm:=all_eq_true.1 hall _ (qx _ _ _ hg);have dp:g=71:=by simpa using hm
 subst dp
 exact ⟨110,by kernel_rfl,fun s W h=>Go.Proofs.TryzRead.readI_long s h W,fun s f b W hs hr=>Go.Proofs.TryzRead.readI_bad s hs f b hr W,fun s f i b l W hs hr hb=>Go.Proofs.TryzRead.readI_short s hs f i b l hr hb W,
  fun s f i b l n W hs hr hb hn aH=>Go.Proofs.TryzRead.readI_fault s hs f i b l n hr hb hn W aH,fun s f i b l W hs hr hb aH=>Go.Proofs.TryzRead.readI_done s hs f i b l hr hb W aH⟩
def R247:Rt seat fW:=pK zju o247 R240
def R347:Rt seat fQ:=po (zj zb Tryz.func73 (by kernel_rfl) (by kernel_rfl))
def R348:Rt seat gZ:=pj (zj zb Tryz.func75 (by kernel_rfl) (by kernel_rfl))
def R96:Rt seat mW:=r96 (zj zb Tryz.func72 (by kernel_rfl) (by kernel_rfl))
def R95:Rt seat oh:=r95 (zj zb Tryz.func70 (by kernel_rfl) (by kernel_rfl)) R96 R97
def R321:Rt seat fU:=pF (zj zb Tryz.func23 (by kernel_rfl) (by kernel_rfl)) R100 R247 R347 R348 R95 R96
def R106:Rt seat ga:=rh (zj zb Tryz.func92 (by kernel_rfl) (by kernel_rfl))
def R94:Rt seat oi:=r94 (zj zb Tryz.func68 (by kernel_rfl) (by kernel_rfl)) R106 R95
def R319:Rt seat ir:=pG (zj zb Tryz.func21 (by kernel_rfl) (by kernel_rfl)) R321 R94
def R324:Rt seat fT:=pD (zj zb Tryz.func27 (by kernel_rfl) (by kernel_rfl)) R319
def R67:Rt seat k67:=r67 (zj zb Tryz.func167 (by kernel_rfl) (by kernel_rfl))
def R75_67:Rt seat k75_67:=r75_67 (zj zb Tryz.func190 (by kernel_rfl) (by kernel_rfl)) R67
def R66_67:Rt seat k66_67:=r66_67 (zj zb Tryz.func166 (by kernel_rfl) (by kernel_rfl)) R75_67
def R41:Rt seat k41:=r41 (zj zb Tryz.func124 (by kernel_rfl) (by kernel_rfl)) R66_67
def R64:Rt seat k64:=r64 (zj zb Tryz.func172 (by kernel_rfl) (by kernel_rfl))
def R63_64:Rt seat zjH:=r63_64 (zj zb Tryz.func171 (by kernel_rfl) (by kernel_rfl)) R64
def R37:Rt seat k37:=r37 (zj zb Tryz.func127 (by kernel_rfl) (by kernel_rfl)) R63_64
def R42:Rt seat k42:=r42 (zj zb Tryz.func125 (by kernel_rfl) (by kernel_rfl)) R37 R41
def R15:Rt seat k15:=r15 (zj zb Tryz.func94 (by kernel_rfl) (by kernel_rfl)) R41 R42
def R39:Rt seat k39:=r39 (zj zb Tryz.func107 (by kernel_rfl) (by kernel_rfl))
def R65_39:Rt seat k65_39:=r65_39 (zj zb Tryz.func148 (by kernel_rfl) (by kernel_rfl)) R39
def R38_39:Rt seat k38_39:=r38_39 (zj zb Tryz.func106 (by kernel_rfl) (by kernel_rfl)) R65_39
def R40:Rt seat k40:=r40 (zj zb Tryz.func84 (by kernel_rfl) (by kernel_rfl))
def R14:Rt seat k14:=r14 (zj zb Tryz.func69 (by kernel_rfl) (by kernel_rfl)) R15 R38_39 R40
def R51:Rt seat k51:=r51 (zj zb Tryz.func87 (by kernel_rfl) (by kernel_rfl)) R14
def R58:Rt seat k58:=r58 (zj zb Tryz.func59 (by kernel_rfl) (by kernel_rfl))
def R47:Rt seat k47:=r47 (zj zb Tryz.func128 (by kernel_rfl) (by kernel_rfl))
def R44:Rt seat k44:=r44 (zj zb Tryz.func101 (by kernel_rfl) (by kernel_rfl)) R47
def R59:Rt seat k59:=r59 (zj zb Tryz.func62 (by kernel_rfl) (by kernel_rfl)) R44
def R60:Rt seat k60:=r60 (zj zb Tryz.func113 (by kernel_rfl) (by kernel_rfl))
def R84:Rt seat k84:=r84 (zj zb Tryz.func181 (by kernel_rfl) (by kernel_rfl))
def R81:Rt seat k81:=r81 (zj zb Tryz.func185 (by kernel_rfl) (by kernel_rfl)) R84
def R74:Rt seat k74:=r74 (zj zb Tryz.func155 (by kernel_rfl) (by kernel_rfl)) R81
def R61:Rt seat k61:=r61 (zj zb Tryz.func114 (by kernel_rfl) (by kernel_rfl)) R74
def R27:Rt seat k27:=r27 (zj zb Tryz.func85 (by kernel_rfl) (by kernel_rfl)) R51 R58 R59 R60 R61
def o303:ReachAt seat:=fun g hg=>by
 have hall:only 98 303 fns=true:=by kernel_rfl
 have hm:=all_eq_true.1 hall _ (qx _ _ _ hg);have dp:g=98:=by simpa using hm
 subst dp;exact fun n i v W b hR hs hb=>Go.Proofs.TryzReach.reach_calls hR hs hb
def R303:Rt seat k303:=r303 o303
def o251:NodeAt seat:=fun g hg=>by
 have hall:only 193 251 fns=true:=by kernel_rfl
 have hm:=all_eq_true.1 hall _ (qx _ _ _ hg);have dp:g=193:=by simpa using hm
 subst dp;refine ⟨124,102,by kernel_rfl,by kernel_rfl,fun T' hT => ?_,fun l lv k x W hk h6 hN eF=>Go.Proofs.TryzNode.node_calls l lv k x W hk h6 hN eF⟩;have:=qx _ _ _ hT;simpa[seat,tys] using this
def R251:Rt seat k251:=r251 zju o251 R41
def R252:Rt seat k252:=r252 (zj zb Tryz.func194 (by kernel_rfl) (by kernel_rfl))
def R241:Rt seat k241:=r241 (zj zb Tryz.func170 (by kernel_rfl) (by kernel_rfl)) R251 R252
def o248:ParseAt seat:=fun g hg=>by
 have hall:only 126 248 fns=true:=by kernel_rfl
 have hm:=all_eq_true.1 hall _ (qx _ _ _ hg);have dp:g=126:=by simpa using hm
 subst dp
 exact ⟨170,102,by kernel_rfl,by kernel_rfl,fun s W h=>Go.Proofs.TryzRead.parse_long s h W,fun s f b W hs hr=>Go.Proofs.TryzRead.parse_bad s hs f b hr W,fun s f i b l W hs hr hb=>Go.Proofs.TryzRead.parse_short s hs f i b l hr hb W,
  fun s f i b l W R hs hr hb hR aH=>Go.Proofs.TryzRead.parse_check s hs f i b l hr hb W R hR aH,fun s f i b l W hs hr hb aH=>Go.Proofs.TryzRead.parse_done s hs f i b l hr hb W aH⟩
def R248:Rt seat k248:=r248 zju o248 R241
def R355:Rt seat k355:=r355 (zj zb Tryz.func95 (by kernel_rfl) (by kernel_rfl)) R248
def o213:SortIAt seat:=fun g hg=>by
 have hall:only 64 213 fns=true:=by kernel_rfl
 have hm:=all_eq_true.1 hall _ (qx _ _ _ hg);have dp:g=64:=by simpa using hm
 subst dp;exact ⟨fun blk cap ss w hH hb hs=>Go.Proofs.Tryz.slices_Sort_int blk 0 cap ss w hH hb hs,fun p cap w=>Go.Proofs.Tryz.slices_Sort_int_none p cap w⟩
def R213:Rt seat k213:=r213 o213
def o302:CompIAt seat:=fun g hg=>by
 have hall:only 129 302 fns=true:=by kernel_rfl
 have hm:=all_eq_true.1 hall _ (qx _ _ _ hg);have dp:g=129:=by simpa using hm
 subst dp;exact ⟨fun blk cap zs w hH h1 h2=>Go.Proofs.Tryz.slices_Compact_int blk 0 cap zs w hH h1 h2,fun a cap w=>Go.Proofs.Tryz.slices_Compact_int_empty a cap w⟩
def R302:Rt seat k302:=r302 o302
def R356:Rt seat k356:=r356 (zj zb Tryz.func96 (by kernel_rfl) (by kernel_rfl)) R213 R302 R37 R47
def R362:Rt seat k362:=r362 (zj zb Tryz.func130 (by kernel_rfl) (by kernel_rfl))
def R357:Rt seat k357:=r357 (zj zb Tryz.func97 (by kernel_rfl) (by kernel_rfl)) R362
def R340:Rt seat k340:=r340 (zj zb Tryz.func54 (by kernel_rfl) (by kernel_rfl)) R15 R303 R355 R356 R357
def R315:Rt seat k315:=r315 (zj zb Tryz.func15 (by kernel_rfl) (by kernel_rfl)) R340
def R320:Rt seat k320:=r320 (zj zb Tryz.func22 (by kernel_rfl) (by kernel_rfl)) R14 R315
def R352:Rt seat k352:=r352 (zj zb Tryz.func81 (by kernel_rfl) (by kernel_rfl)) R320
def R349:Rt seat k349:=r349 (zj zb Tryz.func78 (by kernel_rfl) (by kernel_rfl)) R27 R352
def R69:Rt seat k69:=r69 (zj zb Tryz.func61 (by kernel_rfl) (by kernel_rfl))
def R49:Rt seat k49:=r49 (zj zb Tryz.func60 (by kernel_rfl) (by kernel_rfl))
def R353:Rt seat k353:=r353 (zj zb Tryz.func82 (by kernel_rfl) (by kernel_rfl)) R44
def R76:Rt seat k76:=r76 (zj zb Tryz.func136 (by kernel_rfl) (by kernel_rfl))
def R70:Rt seat k70:=r70 (zj zb Tryz.func102 (by kernel_rfl) (by kernel_rfl)) R76
section
variable (J:JP)
def jC:qh (zG seat J):=zb
def oJ49:Ok1 (zG seat J) 49 tf49:=zj (jC J) Tryz.func60 (by kernel_rfl) (by kernel_rfl)
def RJ49:Rt (zG seat J) k49:=r49 (oJ49 J)
def oJ47:Ok1 (zG seat J) 47 tf47:=zj (jC J) Tryz.func128 (by kernel_rfl) (by kernel_rfl)
def RJ47:Rt (zG seat J) k47:=r47 (oJ47 J)
def oJ44:Ok1 (zG seat J) 44 tf44:=zj (jC J) Tryz.func101 (by kernel_rfl) (by kernel_rfl)
def RJ44:Rt (zG seat J) k44:=r44 (oJ44 J) (RJ47 J)
def oJ353:Ok1 (zG seat J) 353 tf353:=zj (jC J) Tryz.func82 (by kernel_rfl) (by kernel_rfl)
def RJ353:Rt (zG seat J) k353:=r353 (oJ353 J) (RJ44 J)
def oJ84:Ok1 (zG seat J) 84 tf84:=zj (jC J) Tryz.func181 (by kernel_rfl) (by kernel_rfl)
def RJ84:Rt (zG seat J) k84:=r84 (oJ84 J)
def oJ81:Ok1 (zG seat J) 81 tf81:=zj (jC J) Tryz.func185 (by kernel_rfl) (by kernel_rfl)
def RJ81:Rt (zG seat J) k81:=r81 (oJ81 J) (RJ84 J)
def oJ74:Ok1 (zG seat J) 74 tf74:=zj (jC J) Tryz.func155 (by kernel_rfl) (by kernel_rfl)
def RJ74:Rt (zG seat J) k74:=r74 (oJ74 J) (RJ81 J)
def oJ61:Ok1 (zG seat J) 61 tf61:=zj (jC J) Tryz.func114 (by kernel_rfl) (by kernel_rfl)
def RJ61:Rt (zG seat J) k61:=r61 (oJ61 J) (RJ74 J)
def oJ80:Ok1 (zG seat J) 80 tf80:=zj (jC J) Tryz.func187 (by kernel_rfl) (by kernel_rfl)
def RJ80_61:Rt (zG seat J) k80_61:=r80_61 (oJ80 J) (RJ61 J)
def oJ73:Ok1 (zG seat J) 73 tf73:=zj (jC J) Tryz.func162 (by kernel_rfl) (by kernel_rfl)
def RJ73:Rt (zG seat J) k73:=r73 (oJ73 J) (RJ80_61 J)
def oJ57:Ok1 (zG seat J) 57 tf57:=zj (jC J) Tryz.func151 (by kernel_rfl) (by kernel_rfl)
def RJ57:Rt (zG seat J) k57:=r57 (oJ57 J) (RJ73 J)
def oJ76:Ok1 (zG seat J) 76 tf76:=zj (jC J) Tryz.func136 (by kernel_rfl) (by kernel_rfl)
def RJ76:Rt (zG seat J) k76:=r76 (oJ76 J)
def oJ70:Ok1 (zG seat J) 70 tf70:=zj (jC J) Tryz.func102 (by kernel_rfl) (by kernel_rfl)
def RJ70:Rt (zG seat J) k70:=r70 (oJ70 J) (RJ76 J)
def oJ30:Ok1 (zG seat J) 30 tf30:=zj (jC J) Tryz.func83 (by kernel_rfl) (by kernel_rfl)
def RJ30:Rt (zG seat J) k30:=r30 (oJ30 J)
def oJ8:Ok1 (zG seat J) 8 tf8:=zj (jC J) Tryz.func38 (by kernel_rfl) (by kernel_rfl)
def RJ8:Rt (zG seat J) k8:=r8 (oJ8 J) (RJ30 J)
def oJ33:Ok1 (zG seat J) 33 tf33:=zj (jC J) Tryz.func154 (by kernel_rfl) (by kernel_rfl)
def RJ33:Rt (zG seat J) k33:=r33 (oJ33 J) (RJ8 J)
def oJ62:Ok1 (zG seat J) 62 tf62:=zj (jC J) Tryz.func196 (by kernel_rfl) (by kernel_rfl)
def RJ62:Rt (zG seat J) k62:=r62 (oJ62 J)
def oJ34:Ok1 (zG seat J) 34 tf34:=zj (jC J) Tryz.func183 (by kernel_rfl) (by kernel_rfl)
def RJ34:Rt (zG seat J) k34:=r34 (oJ34 J) (RJ62 J) (RJ8 J)
def oJ35:Ok1 (zG seat J) 35 tf35:=zj (jC J) Tryz.func184 (by kernel_rfl) (by kernel_rfl)
def RJ35:Rt (zG seat J) k35:=r35 (oJ35 J) (RJ8 J)
def oJ64:Ok1 (zG seat J) 64 tf64:=zj (jC J) Tryz.func172 (by kernel_rfl) (by kernel_rfl)
def RJ64:Rt (zG seat J) k64:=r64 (oJ64 J)
def oJ63:Ok1 (zG seat J) 63 tf63:=zj (jC J) Tryz.func171 (by kernel_rfl) (by kernel_rfl)
def RJ63_64:Rt (zG seat J) zjH:=r63_64 (oJ63 J) (RJ64 J)
def oJ37:Ok1 (zG seat J) 37 tf37:=zj (jC J) Tryz.func127 (by kernel_rfl) (by kernel_rfl)
def RJ37:Rt (zG seat J) k37:=r37 (oJ37 J) (RJ63_64 J)
def oJ40:Ok1 (zG seat J) 40 tf40:=zj (jC J) Tryz.func84 (by kernel_rfl) (by kernel_rfl)
def RJ40:Rt (zG seat J) k40:=r40 (oJ40 J)
def oJ69:Ok1 (zG seat J) 69 tf69:=zj (jC J) Tryz.func61 (by kernel_rfl) (by kernel_rfl)
def RJ69:Rt (zG seat J) k69:=r69 (oJ69 J)
def oJ364:Ok1 (zG seat J) 364 tf364:=zj (jC J) Tryz.func153 (by kernel_rfl) (by kernel_rfl)
def oJ298:Ok1 (zG seat J) 298 tf298:=zj (jC J) Tryz.func152 (by kernel_rfl) (by kernel_rfl)
def oJ361:Ok1 (zG seat J) 361 tf361:=zj (jC J) Tryz.func112 (by kernel_rfl) (by kernel_rfl)
def atJ:AtAt (zG seat J) J:=fun g hg=>by
 have hall:only 80 351 fns=true:=by kernel_rfl
 have hm:=all_eq_true.1 hall _ (qx _ _ _ hg);have dp:g=80:=by simpa using hm
 subst dp;exact ⟨60,112,by kernel_rfl,by kernel_rfl,fun hb h1 h2 h3 h4 h5 h6 h7 h8 h9 uq uo=>Go.Proofs.TryzSolve.at_calls hb h1 h2 h3 h4 h5 h6 h7 h8 h9 uq uo⟩
def R351n (aX:JOk J):∀ n,Rt (zG seat J) (k351 J n):=r351 aX (atJ J) (RJ49 J) fun _ h=>r361 (oJ361 J) (r298_364 (oJ298 J) (RJ33 J) (RJ34 J) (RJ35 J) (r364 (oJ364 J) h (RJ37 J) (RJ70 J)) (RJ8 J)) (RJ33 J) h (RJ353 J) (RJ47 J) (RJ57 J) (RJ70 J)
def knows (aX:JOk J):JKnows seat J:=⟨r351w (R351n J aX),RJ40 J,RJ69 J⟩
end
def o332:AllAt seat:=fun g hg=>by
 have hall:only 39 332 fns=true:=by kernel_rfl
 have hm:=all_eq_true.1 hall _ (qx _ _ _ hg);have dp:g=39:=by simpa using hm
 subst dp;exact ⟨78,79,Tryz.f79,Tryz.f39,Go.Proofs.TryzSolve.rest332,by kernel_rfl,Tryz.func79,by kernel_rfl,rfl,fun J=>by kernel_rfl,by kernel_rfl,rfl,fun h1 h2 h3 h4=>Go.Proofs.TryzSolve.all_walk h1 h2 h3 h4,fun h1 h2=>Go.Proofs.TryzSolve.all_err h1 h2⟩
def R332:Rt seat k332:=r332 zb zju R349 R355 R40 knows o332
def R333:Rt seat ik:=pA (zj zb Tryz.func40 (by kernel_rfl) (by kernel_rfl)) R332 R69
def R358:Rt seat gX:=pg (zj zb Tryz.func99 (by kernel_rfl) (by kernel_rfl))
def R359_358:Rt seat zfE:=r359_358 (zj zb Tryz.func105 (by kernel_rfl) (by kernel_rfl)) R358
def R345_358:Rt seat zfF:=r345_358 (zj zb Tryz.func66 (by kernel_rfl) (by kernel_rfl)) R359_358
def R341:Rt seat hU:=pq (zj zb Tryz.func55 (by kernel_rfl) (by kernel_rfl)) R345_358
def R342:Rt seat k342:=r342 (zj zb Tryz.func58 (by kernel_rfl) (by kernel_rfl)) R340 R51
def R343:Rt seat k343:=r343 (zj zb Tryz.func63 (by kernel_rfl) (by kernel_rfl)) R353 R49 R70
def R343s:Rt seat k343s:=r343s R343
def R344:Rt seat k344:=r344 (zj zb Tryz.func65 (by kernel_rfl) (by kernel_rfl)) R342 R343s R40 R69
def R334:Rt seat ij:=pz (zj zb Tryz.func44 (by kernel_rfl) (by kernel_rfl)) R341 R344
def R123:Rt seat iD:=p9 (zj zb Tryz.func28 (by kernel_rfl) (by kernel_rfl))
def R125:Rt seat iC:=pZ (zj zb Tryz.func116 (by kernel_rfl) (by kernel_rfl)) R94
def R102:Rt seat gb:=rl (zj zb Tryz.func77 (by kernel_rfl) (by kernel_rfl)) R100
def R130:Rt seat iA:=pX (zj zb Tryz.func33 (by kernel_rfl) (by kernel_rfl)) R102
def R151:Rt seat fY:=pP (zj zb Tryz.func117 (by kernel_rfl) (by kernel_rfl))
def R122:Rt seat iE:=ra (zj zb Tryz.func89 (by kernel_rfl) (by kernel_rfl)) R123 R125 R130 R151
def R335:Rt seat ig:=px (zj zb Tryz.func45 (by kernel_rfl) (by kernel_rfl)) R122 R324
def R140:Rt seat fZ:=pV (zj zb Tryz.func34 (by kernel_rfl) (by kernel_rfl))
def R250:Rt seat fV:=pJ (zj zb Tryz.func76 (by kernel_rfl) (by kernel_rfl))
def R337:Rt seat fS:=pt (zj zb Tryz.func47 (by kernel_rfl) (by kernel_rfl)) R102
def R325:Rt seat im:=pC (zj zb Tryz.func29 (by kernel_rfl) (by kernel_rfl)) R140 R250 R337 R347
def R326:Rt seat il:=pB (zj zb Tryz.func30 (by kernel_rfl) (by kernel_rfl)) R321
def R338:Rt seat fR:=pr (zj zb Tryz.func51 (by kernel_rfl) (by kernel_rfl)) R106 R142 R325 R326
def R155:Rt seat iy:=pO (zj zb Tryz.func157 (by kernel_rfl) (by kernel_rfl)) R151
def R134:Rt seat iz:=pW (zj zb Tryz.func118 (by kernel_rfl) (by kernel_rfl)) R155
def R150:Rt seat dc:=pQ (zj zb Tryz.func158 (by kernel_rfl) (by kernel_rfl))
def R146:Rt seat eo:=pT (zj zb Tryz.func121 (by kernel_rfl) (by kernel_rfl)) R150
def R243:Rt seat iv:=pL (zj zb Tryz.func119 (by kernel_rfl) (by kernel_rfl))
def R160:Rt seat fX:=pN (zj zb Tryz.func186 (by kernel_rfl) (by kernel_rfl))
def R147:Rt seat eS:=pS (zj zb Tryz.func160 (by kernel_rfl) (by kernel_rfl)) R150 R160
def R148:Rt seat eR:=pR (zj zb Tryz.func161 (by kernel_rfl) (by kernel_rfl)) R150 R160
def R291:Rt seat eQ:=pI (zj zb Tryz.func159 (by kernel_rfl) (by kernel_rfl))
def R292:Rt seat iu:=pH (zj zb Tryz.func120 (by kernel_rfl) (by kernel_rfl)) R146 R147 R148 R150 R291
def R354:Rt seat gY:=ph (zj zb Tryz.func90 (by kernel_rfl) (by kernel_rfl)) R100 R134 R140 R146 R243 R247 R250 R292 R337 R96
def R336:Rt seat ic:=pw (zj zb Tryz.func46 (by kernel_rfl) (by kernel_rfl)) R142 R338 R354
def R105a (x:Err) (y:Int) (hy:P105 x=some y):(zg seat).ret 105 (encAL [.err] x) (encA .int y) []:=by
 intro g hg;have hall:only 56 105 fns=true:=by kernel_rfl
 have hm:=all_eq_true.1 hall _ (qx _ _ _ hg);have dp:g=56:=by simpa using hm
 subst dp;refine zbo (fun A w vs hl hA ha => ?_) (fun y hy=>by
  simp only[encAL,List.mem_singleton] at hy;subst hy;cases x<;>rfl)
 have rE:vs.size=1:=by cases x<;>exact hl
 obtain ⟨v,rfl⟩:∃ v,vs=#[v]:=⟨vs[0],by
  apply Array.ext
  ·simpa using rE
  ·intro i h1 h2;obtain rfl:i=0:=by omega
   rfl⟩
 cases x with
 | nil =>obtain rfl:y=0:=(Option.some.inj hy).symm;have hv:VR0 seat A w (.v .nilIface) v:=ha 0 _ rfl;obtain rfl:v=.nilIface:=VR.v_inv (σ:=fun _=>none) (.of0 hv);refine (Go.Proofs.Tryztold.told_nil w).mono fun e w' ⟨he,hw⟩ => ?_;subst hw;exact ⟨_,he,.refl _ _,fun _=>none,by simp,by simp,rfl,.v _⟩
 | no n =>
  obtain rfl:y=n:=(Option.some.inj hy).symm;have hv:VR0 seat A w (.ifc 1 (aI y)) v:=ha 0 _ rfl;obtain ⟨T,u,rfl,hT,hu⟩:∃ T u,v=.iface T u∧qr T tys=some 1∧VR0 seat A w (aI y) u:=by cases hv with | ifc h1 h2=>exact ⟨_,_,rfl,h1,h2⟩
  obtain rfl:u=.int .i64 y:=VR.v_inv (σ:=fun _=>none) (.of0 hu);obtain rfl:T=102:=(by have:=qx _ _ _ hT;simpa[tys] using this);refine (Go.Proofs.Tryztold.told_no y w (hA.2.1 (0,_) (List.mem_singleton.2 rfl))).mono fun e w' ⟨he,hb⟩ => ?_;exact ⟨_,he,⟨hb.os,hb.tape,hb.output,hb.size,fun k hk _=>hb.block k hk⟩,fun _=>none,by simp,by simp,rfl,.v _⟩
 | oth t=>cases hy
def R105:Rt seat mX:=fun x y hy=>R105a x y hy
def R92:Rt seat rr:=r92 (zj zb Tryz.func17 (by kernel_rfl) (by kernel_rfl)) R105
def R313:Rt seat k313:=r313 (zj zb Tryz.func12 (by kernel_rfl) (by kernel_rfl)) R104 R128 R142 R24 R322 R324 R332 R333 R334 R335 R336 R338 R92
end Ab.Tryz
