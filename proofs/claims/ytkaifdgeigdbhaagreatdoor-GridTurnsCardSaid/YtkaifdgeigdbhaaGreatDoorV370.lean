/-
  The seat's program for the abstract machine, and the contracts of all functions that the law reaches: written by program (genlaw.py).
-/
import Derived.Test.YtkaifdgeigdbhaaGreatDoorW370
import Derived.Test.YtkaifdgeigdbhaaGreatDoorF5
import Derived.Test.YtkaifdgeigdbhaaGreatDoorMNw
import Derived.Test.YtkaifdgeigdbhaaGreatDoorMGw
import Derived.Test.YtkaifdgeigdbhaaGreatDoorD3
open List (all_eq_true)
namespace Ab.Tryz
open Go Go.Proofs
def fns:List (Nat×Nat):=[(3,370),(4,371),(5,372),(6,373),(7,374),(8,375),(9,8),(10,376),(11,377),(12,378),(13,379),(14,330),(15,335),(16,123),(17,336),(18,250),(19,140),(20,92),(21,380),(22,125),(23,145),(24,381),(25,246),(26,22),(27,50),(28,382),(29,383),(30,384),(31,104),(32,385),(33,386),(34,387),(35,388),(36,112),(37,110),(38,30),(39,363),(40,349),(41,58),(42,350),(43,351),(44,70),(45,389),(46,390),(47,52),(48,24),(49,324),(50,122),(51,338),(52,354),(53,142),(54,105),(55,144),(56,94),(57,159),(58,51),(59,391),(60,154),(61,139),(62,68),(63,127),(64,111),(65,57),(66,392),(67,393),(68,394),(69,81),(70,126),(71,129),(72,134),(73,28),(74,27),(75,72),(76,71),(77,113),(78,352),(79,40),(80,355),(81,49),(82,360),(83,361),(84,76),(85,395),(86,319),(87,130),(88,151),(89,326),(90,106),(91,325),(92,337),(93,247),(94,243),(95,96),(96,292),(97,100),(98,146),(99,107),(100,95),(101,14),(102,164),(103,165),(104,166),(105,157),(106,114),(107,46),(108,59),(109,73),(110,396),(111,84),(112,103),(113,155),(114,60),(115,61),(116,79),(117,77),(118,78),(119,45),(120,320),(121,248),(122,353),(123,298),(124,364),(125,37),(126,47),(127,33),(128,321),(129,102),(130,347),(131,257),(132,240),(133,150),(134,291),(135,147),(136,148),(140,169),(141,97),(142,15),(143,38),(144,39),(145,173),(146,174),(147,168),(148,44),(149,80),(150,397),(151,398),(152,74),(154,83),(155,48),(156,315),(157,258),(158,259),(159,241),(160,34),(161,35),(162,63),(163,64),(164,348),(165,262),(166,253),(167,160),(171,41),(172,42),(173,65),(176,177),(177,399),(178,85),(179,340),(180,263),(181,264),(182,251),(183,252),(184,62),(185,274),(186,66),(187,67),(188,186),(189,187),(190,188),(191,189),(192,400),(193,86),(194,356),(195,357),(196,303),(197,275),(198,276),(199,277),(200,278),(201,75),(202,197),(203,198),(204,199),(205,200),(206,201),(207,213),(208,302),(209,362),(210,191),(211,283),(212,284),(213,285),(214,205),(215,206),(216,216),(217,217),(219,167),(220,218),(221,219),(222,220),(223,221),(224,222),(225,223),(226,224),(227,225),(228,226),(229,227),(230,175),(231,176),(232,228),(233,229),(234,230),(235,231),(236,232),(237,181),(238,182),(239,183),(240,184),(241,185),(242,233),(243,194),(244,195),(245,196),(246,203),(247,204),(283,207)]
def tys:List (Nat×Nat):=[(90,1),(292,4)]
noncomputable def seat:Seat:={ P:=Tryz.prog,fns,tys,muts:=[(71,[1001]),(77,[1000]),(78,[1000,1002]),(213,[0]),(302,[1000])],own:=[72,76,79],more:=[2],hold:=Go.Proofs.TryzStr.hold,holdK:=Go.Proofs.TryzStr.holdK }
theorem zf:zO seat:=zhl (by kernel_rfl)
theorem zhK:Plain seat:=⟨fun _ h=>h,fun _=>trivial⟩
theorem R67:Rt seat k67:=r67 (zi zf Tryz.func187 (by kernel_rfl) (by kernel_rfl))
theorem R75_67:Rt seat k75_67:=r75_67 (zi zf Tryz.func201 (by kernel_rfl) (by kernel_rfl)) R67
theorem R66_67:Rt seat k66_67:=r66_67 (zi zf Tryz.func186 (by kernel_rfl) (by kernel_rfl)) R75_67
theorem R41:Rt seat k41:=r41 (zi zf Tryz.func171 (by kernel_rfl) (by kernel_rfl)) R66_67
theorem R64:Rt seat k64:=r64 (zi zf Tryz.func163 (by kernel_rfl) (by kernel_rfl))
theorem R63_64:Rt seat zhW:=r63_64 (zi zf Tryz.func162 (by kernel_rfl) (by kernel_rfl)) R64
theorem R37:Rt seat k37:=r37 (zi zf Tryz.func125 (by kernel_rfl) (by kernel_rfl)) R63_64
theorem R42:Rt seat k42:=r42 (zi zf Tryz.func172 (by kernel_rfl) (by kernel_rfl)) R37 R41
theorem R15:Rt seat k15:=r15 (zi zf Tryz.func142 (by kernel_rfl) (by kernel_rfl)) R41 R42
theorem R39:Rt seat k39:=r39 (zi zf Tryz.func144 (by kernel_rfl) (by kernel_rfl))
theorem R65_39:Rt seat k65_39:=r65_39 (zi zf Tryz.func173 (by kernel_rfl) (by kernel_rfl)) R39
theorem R38_39:Rt seat k38_39:=r38_39 (zi zf Tryz.func143 (by kernel_rfl) (by kernel_rfl)) R65_39
theorem R40:Rt seat k40:=r40 (zi zf Tryz.func79 (by kernel_rfl) (by kernel_rfl))
theorem R14:Rt seat k14:=r14 (zi zf Tryz.func101 (by kernel_rfl) (by kernel_rfl)) R15 R38_39 R40
theorem R51:Rt seat k51:=r51 (zi zf Tryz.func58 (by kernel_rfl) (by kernel_rfl)) R14
theorem R58:Rt seat k58:=r58 (zi zf Tryz.func41 (by kernel_rfl) (by kernel_rfl))
theorem R47:Rt seat k47:=r47 (zi zf Tryz.func126 (by kernel_rfl) (by kernel_rfl))
theorem R44:Rt seat k44:=r44 (zi zf Tryz.func148 (by kernel_rfl) (by kernel_rfl)) R47
theorem R59:Rt seat k59:=r59 (zi zf Tryz.func108 (by kernel_rfl) (by kernel_rfl)) R44
theorem R60:Rt seat k60:=r60 (zi zf Tryz.func114 (by kernel_rfl) (by kernel_rfl))
theorem R84:Rt seat k84:=r84 (zi zf Tryz.func111 (by kernel_rfl) (by kernel_rfl))
theorem R81:Rt seat k81:=r81 (zi zf Tryz.func69 (by kernel_rfl) (by kernel_rfl)) R84
theorem R74:Rt seat k74:=r74 (zi zf Tryz.func152 (by kernel_rfl) (by kernel_rfl)) R81
theorem R61:Rt seat k61:=r61 (zi zf Tryz.func115 (by kernel_rfl) (by kernel_rfl)) R74
theorem R27:Rt seat k27:=r27 (zi zf Tryz.func74 (by kernel_rfl) (by kernel_rfl)) R51 R58 R59 R60 R61
theorem o303:ReachAt seat:=fun g hg=>by
 have hall:only 196 303 fns=true:=by kernel_rfl
 have hm:=all_eq_true.1 hall _ (qj _ _ _ hg);have hg':g=196:=by simpa using hm
 subst hg';exact fun n i v W b hR hs hb=>Go.Proofs.TryzReach.reach_calls hR hs hb
theorem R303:Rt seat k303:=r303 o303
theorem o251:NodeAt seat:=fun g hg=>by
 have hall:only 182 251 fns=true:=by kernel_rfl
 have hm:=all_eq_true.1 hall _ (qj _ _ _ hg);have hg':g=182:=by simpa using hm
 subst hg';refine ⟨171,90,by kernel_rfl,by kernel_rfl,fun T' hT => ?_,fun l lv k x W hk h6 hN hnm=>Go.Proofs.TryzNode.node_calls l lv k x W hk h6 hN hnm⟩;have:=qj _ _ _ hT;simpa[seat,tys] using this
theorem R251:Rt seat k251:=r251 zhK o251 R41
theorem R252:Rt seat k252:=r252 (zi zf Tryz.func183 (by kernel_rfl) (by kernel_rfl))
theorem R241:Rt seat k241:=r241 (zi zf Tryz.func159 (by kernel_rfl) (by kernel_rfl)) R251 R252
theorem o248:ParseAt seat:=fun g hg=>by
 have hall:only 121 248 fns=true:=by kernel_rfl
 have hm:=all_eq_true.1 hall _ (qj _ _ _ hg);have hg':g=121:=by simpa using hm
 subst hg'
 exact ⟨159,90,by kernel_rfl,by kernel_rfl,fun s W h=>Go.Proofs.TryzRead.parse_long s h W,fun s f b W hs hr=>Go.Proofs.TryzRead.parse_bad s hs f b hr W,fun s f i b l W hs hr hb=>Go.Proofs.TryzRead.parse_short s hs f i b l hr hb W,
  fun s f i b l W R hs hr hb hR hck=>Go.Proofs.TryzRead.parse_check s hs f i b l hr hb W R hR hck,fun s f i b l W hs hr hb hck=>Go.Proofs.TryzRead.parse_done s hs f i b l hr hb W hck⟩
theorem R248:Rt seat k248:=r248 zhK o248 R241
theorem R355:Rt seat k355:=r355 (zi zf Tryz.func80 (by kernel_rfl) (by kernel_rfl)) R248
theorem o213:SortIAt seat:=fun g hg=>by
 have hall:only 207 213 fns=true:=by kernel_rfl
 have hm:=all_eq_true.1 hall _ (qj _ _ _ hg);have hg':g=207:=by simpa using hm
 subst hg';exact ⟨fun blk cap ss w hH hb hs=>Go.Proofs.Tryz.slices_Sort_int blk 0 cap ss w hH hb hs,fun p cap w=>Go.Proofs.Tryz.slices_Sort_int_none p cap w⟩
theorem R213:Rt seat k213:=r213 o213
theorem o302:CompIAt seat:=fun g hg=>by
 have hall:only 208 302 fns=true:=by kernel_rfl
 have hm:=all_eq_true.1 hall _ (qj _ _ _ hg);have hg':g=208:=by simpa using hm
 subst hg';exact ⟨fun blk cap zs w hH h1 h2=>Go.Proofs.Tryz.slices_Compact_int blk 0 cap zs w hH h1 h2,fun a cap w=>Go.Proofs.Tryz.slices_Compact_int_empty a cap w⟩
theorem R302:Rt seat k302:=r302 o302
theorem R356:Rt seat k356:=r356 (zi zf Tryz.func194 (by kernel_rfl) (by kernel_rfl)) R213 R302 R37 R47
theorem R362:Rt seat k362:=r362 (zi zf Tryz.func209 (by kernel_rfl) (by kernel_rfl))
theorem R357:Rt seat k357:=r357 (zi zf Tryz.func195 (by kernel_rfl) (by kernel_rfl)) R362
theorem R340:Rt seat k340:=r340 (zi zf Tryz.func179 (by kernel_rfl) (by kernel_rfl)) R15 R303 R355 R356 R357
theorem R315:Rt seat k315:=r315 (zi zf Tryz.func156 (by kernel_rfl) (by kernel_rfl)) R340
theorem R320:Rt seat k320:=r320 (zi zf Tryz.func120 (by kernel_rfl) (by kernel_rfl)) R14 R315
theorem R352:Rt seat k352:=r352 (zi zf Tryz.func78 (by kernel_rfl) (by kernel_rfl)) R320
theorem R349:Rt seat k349:=r349 (zi zf Tryz.func40 (by kernel_rfl) (by kernel_rfl)) R27 R352
theorem R76:Rt seat k76:=r76 (zi zf Tryz.func84 (by kernel_rfl) (by kernel_rfl))
theorem R70:Rt seat k70:=r70 (zi zf Tryz.func44 (by kernel_rfl) (by kernel_rfl)) R76
theorem R30:Rt seat k30:=r30 (zi zf Tryz.func38 (by kernel_rfl) (by kernel_rfl))
theorem R8:Rt seat k8:=r8 (zi zf Tryz.func9 (by kernel_rfl) (by kernel_rfl)) R30
section
variable (J:JP)
theorem jf:zO (zw seat J):=zf
theorem oJ49:Ok1 (zw seat J) 49 tf49:=zi (jf J) Tryz.func81 (by kernel_rfl) (by kernel_rfl)
theorem RJ49:Rt (zw seat J) k49:=r49 (oJ49 J)
theorem oJ47:Ok1 (zw seat J) 47 tf47:=zi (jf J) Tryz.func126 (by kernel_rfl) (by kernel_rfl)
theorem RJ47:Rt (zw seat J) k47:=r47 (oJ47 J)
theorem oJ44:Ok1 (zw seat J) 44 tf44:=zi (jf J) Tryz.func148 (by kernel_rfl) (by kernel_rfl)
theorem RJ44:Rt (zw seat J) k44:=r44 (oJ44 J) (RJ47 J)
theorem oJ353:Ok1 (zw seat J) 353 tf353:=zi (jf J) Tryz.func122 (by kernel_rfl) (by kernel_rfl)
theorem RJ353:Rt (zw seat J) k353:=r353 (oJ353 J) (RJ44 J)
theorem oJ84:Ok1 (zw seat J) 84 tf84:=zi (jf J) Tryz.func111 (by kernel_rfl) (by kernel_rfl)
theorem RJ84:Rt (zw seat J) k84:=r84 (oJ84 J)
theorem oJ81:Ok1 (zw seat J) 81 tf81:=zi (jf J) Tryz.func69 (by kernel_rfl) (by kernel_rfl)
theorem RJ81:Rt (zw seat J) k81:=r81 (oJ81 J) (RJ84 J)
theorem oJ74:Ok1 (zw seat J) 74 tf74:=zi (jf J) Tryz.func152 (by kernel_rfl) (by kernel_rfl)
theorem RJ74:Rt (zw seat J) k74:=r74 (oJ74 J) (RJ81 J)
theorem oJ61:Ok1 (zw seat J) 61 tf61:=zi (jf J) Tryz.func115 (by kernel_rfl) (by kernel_rfl)
theorem RJ61:Rt (zw seat J) k61:=r61 (oJ61 J) (RJ74 J)
theorem oJ80:Ok1 (zw seat J) 80 tf80:=zi (jf J) Tryz.func149 (by kernel_rfl) (by kernel_rfl)
theorem RJ80_61:Rt (zw seat J) k80_61:=r80_61 (oJ80 J) (RJ61 J)
theorem oJ73:Ok1 (zw seat J) 73 tf73:=zi (jf J) Tryz.func109 (by kernel_rfl) (by kernel_rfl)
theorem RJ73:Rt (zw seat J) k73:=r73 (oJ73 J) (RJ80_61 J)
theorem oJ57:Ok1 (zw seat J) 57 tf57:=zi (jf J) Tryz.func65 (by kernel_rfl) (by kernel_rfl)
theorem RJ57:Rt (zw seat J) k57:=r57 (oJ57 J) (RJ73 J)
theorem oJ76:Ok1 (zw seat J) 76 tf76:=zi (jf J) Tryz.func84 (by kernel_rfl) (by kernel_rfl)
theorem RJ76:Rt (zw seat J) k76:=r76 (oJ76 J)
theorem oJ70:Ok1 (zw seat J) 70 tf70:=zi (jf J) Tryz.func44 (by kernel_rfl) (by kernel_rfl)
theorem RJ70:Rt (zw seat J) k70:=r70 (oJ70 J) (RJ76 J)
theorem oJ30:Ok1 (zw seat J) 30 tf30:=zi (jf J) Tryz.func38 (by kernel_rfl) (by kernel_rfl)
theorem RJ30:Rt (zw seat J) k30:=r30 (oJ30 J)
theorem oJ8:Ok1 (zw seat J) 8 tf8:=zi (jf J) Tryz.func9 (by kernel_rfl) (by kernel_rfl)
theorem RJ8:Rt (zw seat J) k8:=r8 (oJ8 J) (RJ30 J)
theorem oJ33:Ok1 (zw seat J) 33 tf33:=zi (jf J) Tryz.func127 (by kernel_rfl) (by kernel_rfl)
theorem RJ33:Rt (zw seat J) k33:=r33 (oJ33 J) (RJ8 J)
theorem oJ62:Ok1 (zw seat J) 62 tf62:=zi (jf J) Tryz.func184 (by kernel_rfl) (by kernel_rfl)
theorem RJ62:Rt (zw seat J) k62:=r62 (oJ62 J)
theorem oJ34:Ok1 (zw seat J) 34 tf34:=zi (jf J) Tryz.func160 (by kernel_rfl) (by kernel_rfl)
theorem RJ34:Rt (zw seat J) k34:=r34 (oJ34 J) (RJ62 J) (RJ8 J)
theorem oJ35:Ok1 (zw seat J) 35 tf35:=zi (jf J) Tryz.func161 (by kernel_rfl) (by kernel_rfl)
theorem RJ35:Rt (zw seat J) k35:=r35 (oJ35 J) (RJ8 J)
theorem oJ64:Ok1 (zw seat J) 64 tf64:=zi (jf J) Tryz.func163 (by kernel_rfl) (by kernel_rfl)
theorem RJ64:Rt (zw seat J) k64:=r64 (oJ64 J)
theorem oJ63:Ok1 (zw seat J) 63 tf63:=zi (jf J) Tryz.func162 (by kernel_rfl) (by kernel_rfl)
theorem RJ63_64:Rt (zw seat J) zhW:=r63_64 (oJ63 J) (RJ64 J)
theorem oJ37:Ok1 (zw seat J) 37 tf37:=zi (jf J) Tryz.func125 (by kernel_rfl) (by kernel_rfl)
theorem RJ37:Rt (zw seat J) k37:=r37 (oJ37 J) (RJ63_64 J)
theorem oJ40:Ok1 (zw seat J) 40 tf40:=zi (jf J) Tryz.func79 (by kernel_rfl) (by kernel_rfl)
theorem RJ40:Rt (zw seat J) k40:=r40 (oJ40 J)
theorem RJ69:Rt (zw seat J) k69:=fun x y hy g hg=>absurd (all_eq_true.1 (show (fns.all fun q => !(Nat.beq q.2 69))=true by kernel_rfl) _ (qj _ _ _ hg)) (by show ¬ ((!Nat.beq 69 69)=true);decide)
theorem oJ364:Ok1 (zw seat J) 364 tf364:=zi (jf J) Tryz.func124 (by kernel_rfl) (by kernel_rfl)
theorem oJ298:Ok1 (zw seat J) 298 tf298:=zi (jf J) Tryz.func123 (by kernel_rfl) (by kernel_rfl)
theorem oJ361:Ok1 (zw seat J) 361 tf361:=zi (jf J) Tryz.func83 (by kernel_rfl) (by kernel_rfl)
theorem atJ:AtAt (zw seat J) J:=fun g hg=>by
 have hall:only 43 351 fns=true:=by kernel_rfl
 have hm:=all_eq_true.1 hall _ (qj _ _ _ hg);have hg':g=43:=by simpa using hm
 subst hg';exact ⟨81,83,by kernel_rfl,by kernel_rfl,fun hb h1 h2 h3 h4 h5 h6 h7 h8 h9 h10 h11=>Go.Proofs.TryzSolve.at_calls hb h1 h2 h3 h4 h5 h6 h7 h8 h9 h10 h11⟩
theorem R351n (hok:JOk J):∀ n,Rt (zw seat J) (k351 J n):=r351 hok (atJ J) (RJ49 J) fun _ h=>r361 (oJ361 J) (r298_364 (oJ298 J) (RJ33 J) (RJ34 J) (RJ35 J) (r364 (oJ364 J) h (RJ37 J) (RJ70 J)) (RJ8 J)) (RJ33 J) h (RJ353 J) (RJ47 J) (RJ57 J) (RJ70 J)
theorem knows (hok:JOk J):JKnows seat J:=⟨r351w (R351n J hok),RJ40 J,RJ69 J⟩
end
theorem o330:ValueAt seat:=fun g hg=>by
 have hall:only 14 330 fns=true:=by kernel_rfl
 have hm:=all_eq_true.1 hall _ (qj _ _ _ hg);have hg':g=14:=by simpa using hm
 subst hg';exact ⟨40,41,42,43,Tryz.f42,by kernel_rfl,by kernel_rfl,by kernel_rfl,Tryz.func42,by kernel_rfl,rfl,fun h1 h2 h3 h4 h5=>Go.Proofs.TryzSolve.value_walk h1 h2 h3 h4 h5,fun h1 h2=>Go.Proofs.TryzSolve.value_err1 h1 h2,fun h1 h2 h3=>Go.Proofs.TryzSolve.value_err2 h1 h2 h3⟩
theorem R330:Rt seat k330:=r330 zf zhK R355 R40 R349 R58 knows o330
theorem R363:Rt seat k363:=r363 (zi zf Tryz.func39 (by kernel_rfl) (by kernel_rfl))
theorem R390:Rt seat k390:=r390 (zi zf Tryz.func46 (by kernel_rfl) (by kernel_rfl))
theorem R395_390:Rt seat zeA:=r395_390 (zi zf Tryz.func85 (by kernel_rfl) (by kernel_rfl)) R390
theorem R389_390:Rt seat zeB:=r389_390 (zi zf Tryz.func45 (by kernel_rfl) (by kernel_rfl)) R395_390
theorem R52:Rt seat k52:=r52 (zi zf Tryz.func47 (by kernel_rfl) (by kernel_rfl)) R30
theorem R378:Rt seat k378:=r378 (zi zf Tryz.func12 (by kernel_rfl) (by kernel_rfl)) R389_390 R52
theorem R376:Rt seat k376:=r376 (zi zf Tryz.func10 (by kernel_rfl) (by kernel_rfl)) R363 R378
theorem o377:Ok1 seat 377 tf377:=zi zf Tryz.func11 (by kernel_rfl) (by kernel_rfl)
theorem m377:MakeAt seat:=fun g hg=>by
 have hall:only 11 377 fns=true:=by kernel_rfl
 have hm:=all_eq_true.1 hall _ (qj _ _ _ hg);have hg':g=11:=by simpa using hm
 subst hg';exact ⟨40,41,42,Tryz.f42,Tryz.f11,Go.Proofs.TryzSolve.rest377,34,by kernel_rfl,by kernel_rfl,Tryz.func42,by kernel_rfl,rfl,fun J=>by kernel_rfl,by kernel_rfl,rfl,fun h1 h2 h3 h4 h5 h6 h7 h8 h9=>Go.Proofs.TryzSolve.make_walk h1 h2 h3 h4 h5 h6 h7 h8 h9⟩
theorem R377:Rt seat k377:=r377 zf zhK R355 R40 R349 R58 R70 knows RJ70 o377 m377
theorem R104:Rt seat k104:=r104 (zi zf Tryz.func31 (by kernel_rfl) (by kernel_rfl))
theorem R24:Rt seat k24:=r24 (zi zf Tryz.func48 (by kernel_rfl) (by kernel_rfl))
theorem R379:Rt seat k379:=r379 (zi zf Tryz.func13 (by kernel_rfl) (by kernel_rfl)) R104 R24
theorem R370:Rt seat k370:=r370 (zi zf Tryz.func3 (by kernel_rfl) (by kernel_rfl)) R330 R376 R377 R378 R379 R8
end Ab.Tryz
