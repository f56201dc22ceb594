/-
  The seat's program for the abstract machine, and the contracts of all functions that the law reaches: written by program (genlaw.py).
-/
import Derived.Test.YtchidgkpkhloeaaGreatDoorW314
import Derived.Test.YtchidgkpkhloeaaGreatDoorF5
import Derived.Test.YtchidgkpkhloeaaGreatDoorMNw
import Derived.Test.YtchidgkpkhloeaaGreatDoorMLw
import Derived.Test.YtchidgkpkhloeaaGreatDoorD3
open List (all_eq_true)
namespace Ab.Tryz
open Go Go.Proofs
def fns:List (Nat×Nat):=[(3,304),(4,305),(5,306),(6,307),(7,308),(8,309),(9,310),(10,311),(11,312),(12,313),(13,314),(14,68),(15,315),(16,316),(17,92),(18,22),(19,317),(20,318),(21,319),(22,320),(23,321),(24,322),(25,323),(26,104),(27,324),(28,123),(29,325),(30,326),(31,327),(32,328),(33,130),(34,140),(35,329),(36,330),(37,331),(38,8),(39,332),(40,333),(41,110),(42,98),(43,132),(44,334),(45,335),(46,336),(47,337),(48,142),(49,24),(50,128),(51,338),(52,25),(53,339),(54,340),(55,341),(56,105),(57,50),(58,342),(59,58),(60,49),(61,69),(62,59),(63,343),(64,213),(65,344),(66,345),(67,346),(68,94),(69,14),(70,95),(71,247),(72,96),(73,347),(74,100),(75,348),(76,250),(77,102),(78,349),(79,350),(80,351),(81,352),(82,353),(83,30),(84,40),(85,27),(86,113),(87,51),(88,114),(89,122),(90,354),(91,28),(92,106),(93,55),(94,15),(95,355),(96,356),(97,357),(98,303),(99,358),(100,107),(101,44),(102,70),(103,216),(104,217),(105,359),(106,38),(107,39),(108,97),(109,257),(110,240),(111,360),(112,361),(113,60),(114,61),(115,45),(116,125),(117,151),(118,134),(119,243),(120,292),(121,146),(122,71),(123,72),(124,41),(125,42),(126,248),(127,37),(128,47),(129,302),(130,362),(131,363),(135,169),(136,76),(137,218),(138,219),(139,220),(140,221),(141,222),(142,223),(143,224),(144,225),(145,226),(146,227),(147,198),(148,65),(149,262),(150,253),(151,57),(152,298),(153,364),(154,33),(155,74),(156,48),(157,155),(158,150),(159,291),(160,147),(161,148),(162,73),(163,77),(164,78),(165,79),(166,66),(167,67),(168,258),(169,259),(170,241),(171,63),(172,64),(176,228),(177,229),(178,230),(179,231),(180,232),(181,84),(182,274),(183,34),(184,35),(185,81),(186,160),(187,80),(189,83),(190,75),(191,263),(192,264),(193,251),(194,252),(195,233),(196,62),(197,85),(198,275),(199,276),(200,277),(201,278),(202,86),(203,191),(204,283),(205,284),(206,285),(208,167),(209,175),(210,176),(211,181),(212,182),(213,183),(214,184),(215,185),(216,194),(217,195),(218,196),(219,157),(220,203),(221,204),(222,168),(223,177),(224,186),(225,187),(226,188),(227,189),(228,197),(229,199),(230,200),(231,201),(232,205),(233,206),(268,207)]
def tys:List (Nat×Nat):=[(102,1),(262,4)]
noncomputable def seat:Seat:={ P:=Tryz.prog,fns,tys,muts:=[(71,[1001]),(77,[1000]),(78,[1000,1002]),(213,[0]),(302,[1000])],own:=[72,76,79,363,343],more:=[4],hold:=Go.Proofs.TryzStr.hold,holdK:=Go.Proofs.TryzStr.holdK }
theorem zf:zY seat:=zic (by kernel_rfl)
theorem ziF:Plain seat:=⟨fun _ h=>h,fun _=>trivial⟩
theorem R67:Rt seat k67:=r67 (zi zf Tryz.func167 (by kernel_rfl) (by kernel_rfl))
theorem R75_67:Rt seat k75_67:=r75_67 (zi zf Tryz.func190 (by kernel_rfl) (by kernel_rfl)) R67
theorem R66_67:Rt seat k66_67:=r66_67 (zi zf Tryz.func166 (by kernel_rfl) (by kernel_rfl)) R75_67
theorem R41:Rt seat k41:=r41 (zi zf Tryz.func124 (by kernel_rfl) (by kernel_rfl)) R66_67
theorem R64:Rt seat k64:=r64 (zi zf Tryz.func172 (by kernel_rfl) (by kernel_rfl))
theorem R63_64:Rt seat ziU:=r63_64 (zi zf Tryz.func171 (by kernel_rfl) (by kernel_rfl)) R64
theorem R37:Rt seat k37:=r37 (zi zf Tryz.func127 (by kernel_rfl) (by kernel_rfl)) R63_64
theorem R42:Rt seat k42:=r42 (zi zf Tryz.func125 (by kernel_rfl) (by kernel_rfl)) R37 R41
theorem R15:Rt seat k15:=r15 (zi zf Tryz.func94 (by kernel_rfl) (by kernel_rfl)) R41 R42
theorem R39:Rt seat k39:=r39 (zi zf Tryz.func107 (by kernel_rfl) (by kernel_rfl))
theorem R65_39:Rt seat k65_39:=r65_39 (zi zf Tryz.func148 (by kernel_rfl) (by kernel_rfl)) R39
theorem R38_39:Rt seat k38_39:=r38_39 (zi zf Tryz.func106 (by kernel_rfl) (by kernel_rfl)) R65_39
theorem R40:Rt seat k40:=r40 (zi zf Tryz.func84 (by kernel_rfl) (by kernel_rfl))
theorem R14:Rt seat k14:=r14 (zi zf Tryz.func69 (by kernel_rfl) (by kernel_rfl)) R15 R38_39 R40
theorem R51:Rt seat k51:=r51 (zi zf Tryz.func87 (by kernel_rfl) (by kernel_rfl)) R14
theorem R58:Rt seat k58:=r58 (zi zf Tryz.func59 (by kernel_rfl) (by kernel_rfl))
theorem R114:Rt seat k114:=r114 (zi zf Tryz.func88 (by kernel_rfl) (by kernel_rfl)) R51 R58
theorem R49:Rt seat k49:=r49 (zi zf Tryz.func60 (by kernel_rfl) (by kernel_rfl))
theorem R132:Rt seat k132:=r132 (zi zf Tryz.func43 (by kernel_rfl) (by kernel_rfl)) R114 R49
theorem R47:Rt seat k47:=r47 (zi zf Tryz.func128 (by kernel_rfl) (by kernel_rfl))
theorem R44:Rt seat k44:=r44 (zi zf Tryz.func101 (by kernel_rfl) (by kernel_rfl)) R47
theorem R59:Rt seat k59:=r59 (zi zf Tryz.func62 (by kernel_rfl) (by kernel_rfl)) R44
theorem R60:Rt seat k60:=r60 (zi zf Tryz.func113 (by kernel_rfl) (by kernel_rfl))
theorem R84:Rt seat k84:=r84 (zi zf Tryz.func181 (by kernel_rfl) (by kernel_rfl))
theorem R81:Rt seat k81:=r81 (zi zf Tryz.func185 (by kernel_rfl) (by kernel_rfl)) R84
theorem R74:Rt seat k74:=r74 (zi zf Tryz.func155 (by kernel_rfl) (by kernel_rfl)) R81
theorem R61:Rt seat k61:=r61 (zi zf Tryz.func114 (by kernel_rfl) (by kernel_rfl)) R74
theorem R27:Rt seat k27:=r27 (zi zf Tryz.func85 (by kernel_rfl) (by kernel_rfl)) R51 R58 R59 R60 R61
theorem R80_61:Rt seat ziT:=r80_61 (zi zf Tryz.func187 (by kernel_rfl) (by kernel_rfl)) R61
theorem R73:Rt seat k73:=r73 (zi zf Tryz.func162 (by kernel_rfl) (by kernel_rfl)) R80_61
theorem o76:Ok1 seat 76 tf76:=zi zf Tryz.func136 (by kernel_rfl) (by kernel_rfl)
theorem R76s:Rt seat k76s:=r76s o76
def slρ:Go.Shelf.Ren:=⟨fun n=>match n with | 22=>164 | 29=>188 | 30=>189 | 45=>163 | _=>0,fun n=>match n with | 0=>0 | 3=>3 | 4=>4 | 9=>67 | 24=>68 | 22=>68 | 23=>67 | _=>0,fun n=>n⟩
def slzc:Array Value:=#[.slice none 0 0,.int .i64 0]
theorem slL:SlL Tryz.prog slρ slzc:=⟨by kernel_rfl,by kernel_rfl,by kernel_rfl,by kernel_rfl,by kernel_rfl,by kernel_rfl,by kernel_rfl,rfl,fun u hu=>by
 simp only[slzc,List.mem_cons,List.not_mem_nil,or_false] at hu;rcases hu with rfl | rfl<;>rfl⟩
theorem insL:InsL Tryz.prog slρ slzc:={ slL with
 f22 := ⟨ "slices.Insert[[]tallyhall/api.Entry,tallyhall/api.Entry]", by kernel_rfl, by kernel_rfl⟩
 ov:=fun args w=>run_callFunc_extern (e:=Extern.SlicesOverlaps.overlaps #[68,68] #[4]) Tryz.func188 (by kernel_rfl) (by kernel_rfl) (by kernel_rfl) (by kernel_rfl) args w
 t24:=by kernel_rfl
 i24:=by kernel_rfl
 i9:=by kernel_rfl }
theorem delL:DelL Tryz.prog slρ slzc:={ slL with
 f45 := ⟨ "slices.Delete[[]tallyhall/api.Entry,tallyhall/api.Entry]", by kernel_rfl, by kernel_rfl⟩
 t22:=by kernel_rfl
 i22:=by kernel_rfl
 i23:=by kernel_rfl }
theorem o77:DelAt seat 77:=fun g hg=>by
 have hall:only 163 77 fns=true:=by kernel_rfl
 have hm:=all_eq_true.1 hall _ (qi _ _ _ hg);have hg':g=163:=by simpa using hm
 subst hg';exact ⟨slρ,slzc,rfl,delL⟩
theorem o78:InsAt seat 78:=fun g hg=>by
 have hall:only 164 78 fns=true:=by kernel_rfl
 have hm:=all_eq_true.1 hall _ (qi _ _ _ hg);have hg':g=164:=by simpa using hm
 subst hg';exact ⟨slρ,slzc,rfl,insL⟩
theorem R77:Rt seat k77:=r77 o77
theorem R78:Rt seat k78:=r78 o78
theorem R71:Rt seat k71:=r71 (zi zf Tryz.func122 (by kernel_rfl) (by kernel_rfl)) R58 R59 R60 R73 R76s R77 R78
theorem R79:Rt seat k79:=r79 (zi zf Tryz.func165 (by kernel_rfl) (by kernel_rfl))
theorem R72:Rt seat k72:=r72 (zi zf Tryz.func123 (by kernel_rfl) (by kernel_rfl)) R76s R79
theorem R55:Rt seat k55:=r55 (zi zf Tryz.func93 (by kernel_rfl) (by kernel_rfl)) R27 R71 R72
theorem R25:Rt seat k25:=r25 (zi zf Tryz.func52 (by kernel_rfl) (by kernel_rfl)) R55
theorem o303:ReachAt seat:=fun g hg=>by
 have hall:only 98 303 fns=true:=by kernel_rfl
 have hm:=all_eq_true.1 hall _ (qi _ _ _ hg);have hg':g=98:=by simpa using hm
 subst hg';exact fun n i v W b hR hs hb=>Go.Proofs.TryzReach.reach_calls hR hs hb
theorem R303:Rt seat k303:=r303 o303
theorem o251:NodeAt seat:=fun g hg=>by
 have hall:only 193 251 fns=true:=by kernel_rfl
 have hm:=all_eq_true.1 hall _ (qi _ _ _ hg);have hg':g=193:=by simpa using hm
 subst hg';refine ⟨124,102,by kernel_rfl,by kernel_rfl,fun T' hT => ?_,fun l lv k x W hk h6 hN hnm=>Go.Proofs.TryzNode.node_calls l lv k x W hk h6 hN hnm⟩;have:=qi _ _ _ hT;simpa[seat,tys] using this
theorem R251:Rt seat k251:=r251 ziF o251 R41
theorem R252:Rt seat k252:=r252 (zi zf Tryz.func194 (by kernel_rfl) (by kernel_rfl))
theorem R241:Rt seat k241:=r241 (zi zf Tryz.func170 (by kernel_rfl) (by kernel_rfl)) R251 R252
theorem o248:ParseAt seat:=fun g hg=>by
 have hall:only 126 248 fns=true:=by kernel_rfl
 have hm:=all_eq_true.1 hall _ (qi _ _ _ hg);have hg':g=126:=by simpa using hm
 subst hg'
 exact ⟨170,102,by kernel_rfl,by kernel_rfl,fun s W h=>Go.Proofs.TryzRead.parse_long s h W,fun s f b W hs hr=>Go.Proofs.TryzRead.parse_bad s hs f b hr W,fun s f i b l W hs hr hb=>Go.Proofs.TryzRead.parse_short s hs f i b l hr hb W,
  fun s f i b l W R hs hr hb hR hck=>Go.Proofs.TryzRead.parse_check s hs f i b l hr hb W R hR hck,fun s f i b l W hs hr hb hck=>Go.Proofs.TryzRead.parse_done s hs f i b l hr hb W hck⟩
theorem R248:Rt seat k248:=r248 ziF o248 R241
theorem R355:Rt seat k355:=r355 (zi zf Tryz.func95 (by kernel_rfl) (by kernel_rfl)) R248
theorem o213:zil seat:=fun g hg=>by
 have hall:only 64 213 fns=true:=by kernel_rfl
 have hm:=all_eq_true.1 hall _ (qi _ _ _ hg);have hg':g=64:=by simpa using hm
 subst hg';exact ⟨fun blk cap ss w hH hb hs=>Go.Proofs.Tryz.slices_Sort_int blk 0 cap ss w hH hb hs,fun p cap w=>Go.Proofs.Tryz.slices_Sort_int_none p cap w⟩
theorem R213:Rt seat k213:=r213 o213
theorem o302:CompIAt seat:=fun g hg=>by
 have hall:only 129 302 fns=true:=by kernel_rfl
 have hm:=all_eq_true.1 hall _ (qi _ _ _ hg);have hg':g=129:=by simpa using hm
 subst hg';exact ⟨fun blk cap zs w hH h1 h2=>Go.Proofs.Tryz.slices_Compact_int blk 0 cap zs w hH h1 h2,fun a cap w=>Go.Proofs.Tryz.slices_Compact_int_empty a cap w⟩
theorem R302:Rt seat k302:=r302 o302
theorem R356:Rt seat k356:=r356 (zi zf Tryz.func96 (by kernel_rfl) (by kernel_rfl)) R213 R302 R37 R47
theorem R362:Rt seat k362:=r362 (zi zf Tryz.func130 (by kernel_rfl) (by kernel_rfl))
theorem R357:Rt seat k357:=r357 (zi zf Tryz.func97 (by kernel_rfl) (by kernel_rfl)) R362
theorem R340:Rt seat k340:=r340 (zi zf Tryz.func54 (by kernel_rfl) (by kernel_rfl)) R15 R303 R355 R356 R357
theorem R342:Rt seat k342:=r342 (zi zf Tryz.func58 (by kernel_rfl) (by kernel_rfl)) R340 R51
theorem R69:Rt seat k69:=r69 (zi zf Tryz.func61 (by kernel_rfl) (by kernel_rfl))
theorem R353:Rt seat k353:=r353 (zi zf Tryz.func82 (by kernel_rfl) (by kernel_rfl)) R44
theorem R76:Rt seat k76:=r76 o76
theorem R70:Rt seat k70:=r70 (zi zf Tryz.func102 (by kernel_rfl) (by kernel_rfl)) R76
theorem R343:Rt seat k343:=r343 (zi zf Tryz.func63 (by kernel_rfl) (by kernel_rfl)) R353 R49 R70
theorem o317:LeafsAt seat:=fun g hg=>by
 have hall:only 19 317 fns=true:=by kernel_rfl
 have hm:=all_eq_true.1 hall _ (qi _ _ _ hg);have hg':g=19:=by simpa using hm
 subst hg';exact ⟨58,59,60,61,62,63,64,by kernel_rfl,by kernel_rfl,by kernel_rfl,by kernel_rfl,by kernel_rfl,by kernel_rfl,by kernel_rfl,fun h1 h2 h3 h4 h5 h6 h7 h8 h9 h10 h11 h12=>Go.Proofs.TryzLeafs.leafs_walk h1 h2 h3 h4 h5 h6 h7 h8 h9 h10 h11 h12,fun h1 h2=>Go.Proofs.TryzLeafs.leafs_err1 h1 h2,fun h1 h2 h3=>Go.Proofs.TryzLeafs.leafs_err2 h1 h2 h3⟩
theorem R317:Rt seat k317:=r317 ziF R342 R58 R49 R69 R59 R343 o213 o317
theorem R343s:Rt seat k343s:=r343s R343
theorem R344:Rt seat k344:=r344 (zi zf Tryz.func65 (by kernel_rfl) (by kernel_rfl)) R342 R343s R40 R69
theorem R346:Rt seat k346:=r346 (zi zf Tryz.func67 (by kernel_rfl) (by kernel_rfl))
theorem R359_346:Rt seat zfh:=r359_346 (zi zf Tryz.func105 (by kernel_rfl) (by kernel_rfl)) R346
theorem R345_346:Rt seat zfi:=r345_346 (zi zf Tryz.func66 (by kernel_rfl) (by kernel_rfl)) R359_346
theorem R318:Rt seat k318:=r318 (zi zf Tryz.func20 (by kernel_rfl) (by kernel_rfl)) R344 R345_346 R49 R58 R59
theorem R315:Rt seat k315:=r315 (zi zf Tryz.func15 (by kernel_rfl) (by kernel_rfl)) R340
theorem R320:Rt seat k320:=r320 (zi zf Tryz.func22 (by kernel_rfl) (by kernel_rfl)) R14 R315
theorem R352:Rt seat k352:=r352 (zi zf Tryz.func81 (by kernel_rfl) (by kernel_rfl)) R320
theorem R349:Rt seat k349:=r349 (zi zf Tryz.func78 (by kernel_rfl) (by kernel_rfl)) R27 R352
section
variable (J:JP)
theorem jo:zY (zy seat J):=zf
theorem oJ49:Ok1 (zy seat J) 49 tf49:=zi (jo J) Tryz.func60 (by kernel_rfl) (by kernel_rfl)
theorem RJ49:Rt (zy seat J) k49:=r49 (oJ49 J)
theorem oJ47:Ok1 (zy seat J) 47 tf47:=zi (jo J) Tryz.func128 (by kernel_rfl) (by kernel_rfl)
theorem RJ47:Rt (zy seat J) k47:=r47 (oJ47 J)
theorem oJ44:Ok1 (zy seat J) 44 tf44:=zi (jo J) Tryz.func101 (by kernel_rfl) (by kernel_rfl)
theorem RJ44:Rt (zy seat J) k44:=r44 (oJ44 J) (RJ47 J)
theorem oJ353:Ok1 (zy seat J) 353 tf353:=zi (jo J) Tryz.func82 (by kernel_rfl) (by kernel_rfl)
theorem RJ353:Rt (zy seat J) k353:=r353 (oJ353 J) (RJ44 J)
theorem oJ84:Ok1 (zy seat J) 84 tf84:=zi (jo J) Tryz.func181 (by kernel_rfl) (by kernel_rfl)
theorem RJ84:Rt (zy seat J) k84:=r84 (oJ84 J)
theorem oJ81:Ok1 (zy seat J) 81 tf81:=zi (jo J) Tryz.func185 (by kernel_rfl) (by kernel_rfl)
theorem RJ81:Rt (zy seat J) k81:=r81 (oJ81 J) (RJ84 J)
theorem oJ74:Ok1 (zy seat J) 74 tf74:=zi (jo J) Tryz.func155 (by kernel_rfl) (by kernel_rfl)
theorem RJ74:Rt (zy seat J) k74:=r74 (oJ74 J) (RJ81 J)
theorem oJ61:Ok1 (zy seat J) 61 tf61:=zi (jo J) Tryz.func114 (by kernel_rfl) (by kernel_rfl)
theorem RJ61:Rt (zy seat J) k61:=r61 (oJ61 J) (RJ74 J)
theorem oJ80:Ok1 (zy seat J) 80 tf80:=zi (jo J) Tryz.func187 (by kernel_rfl) (by kernel_rfl)
theorem RJ80_61:Rt (zy seat J) ziT:=r80_61 (oJ80 J) (RJ61 J)
theorem oJ73:Ok1 (zy seat J) 73 tf73:=zi (jo J) Tryz.func162 (by kernel_rfl) (by kernel_rfl)
theorem RJ73:Rt (zy seat J) k73:=r73 (oJ73 J) (RJ80_61 J)
theorem oJ57:Ok1 (zy seat J) 57 tf57:=zi (jo J) Tryz.func151 (by kernel_rfl) (by kernel_rfl)
theorem RJ57:Rt (zy seat J) k57:=r57 (oJ57 J) (RJ73 J)
theorem oJ76:Ok1 (zy seat J) 76 tf76:=zi (jo J) Tryz.func136 (by kernel_rfl) (by kernel_rfl)
theorem RJ76:Rt (zy seat J) k76:=r76 (oJ76 J)
theorem oJ70:Ok1 (zy seat J) 70 tf70:=zi (jo J) Tryz.func102 (by kernel_rfl) (by kernel_rfl)
theorem RJ70:Rt (zy seat J) k70:=r70 (oJ70 J) (RJ76 J)
theorem oJ30:Ok1 (zy seat J) 30 tf30:=zi (jo J) Tryz.func83 (by kernel_rfl) (by kernel_rfl)
theorem RJ30:Rt (zy seat J) k30:=r30 (oJ30 J)
theorem oJ8:Ok1 (zy seat J) 8 tf8:=zi (jo J) Tryz.func38 (by kernel_rfl) (by kernel_rfl)
theorem RJ8:Rt (zy seat J) k8:=r8 (oJ8 J) (RJ30 J)
theorem oJ33:Ok1 (zy seat J) 33 tf33:=zi (jo J) Tryz.func154 (by kernel_rfl) (by kernel_rfl)
theorem RJ33:Rt (zy seat J) k33:=r33 (oJ33 J) (RJ8 J)
theorem oJ62:Ok1 (zy seat J) 62 tf62:=zi (jo J) Tryz.func196 (by kernel_rfl) (by kernel_rfl)
theorem RJ62:Rt (zy seat J) k62:=r62 (oJ62 J)
theorem oJ34:Ok1 (zy seat J) 34 tf34:=zi (jo J) Tryz.func183 (by kernel_rfl) (by kernel_rfl)
theorem RJ34:Rt (zy seat J) k34:=r34 (oJ34 J) (RJ62 J) (RJ8 J)
theorem oJ35:Ok1 (zy seat J) 35 tf35:=zi (jo J) Tryz.func184 (by kernel_rfl) (by kernel_rfl)
theorem RJ35:Rt (zy seat J) k35:=r35 (oJ35 J) (RJ8 J)
theorem oJ64:Ok1 (zy seat J) 64 tf64:=zi (jo J) Tryz.func172 (by kernel_rfl) (by kernel_rfl)
theorem RJ64:Rt (zy seat J) k64:=r64 (oJ64 J)
theorem oJ63:Ok1 (zy seat J) 63 tf63:=zi (jo J) Tryz.func171 (by kernel_rfl) (by kernel_rfl)
theorem RJ63_64:Rt (zy seat J) ziU:=r63_64 (oJ63 J) (RJ64 J)
theorem oJ37:Ok1 (zy seat J) 37 tf37:=zi (jo J) Tryz.func127 (by kernel_rfl) (by kernel_rfl)
theorem RJ37:Rt (zy seat J) k37:=r37 (oJ37 J) (RJ63_64 J)
theorem oJ40:Ok1 (zy seat J) 40 tf40:=zi (jo J) Tryz.func84 (by kernel_rfl) (by kernel_rfl)
theorem RJ40:Rt (zy seat J) k40:=r40 (oJ40 J)
theorem oJ69:Ok1 (zy seat J) 69 tf69:=zi (jo J) Tryz.func61 (by kernel_rfl) (by kernel_rfl)
theorem RJ69:Rt (zy seat J) k69:=r69 (oJ69 J)
theorem oJ364:Ok1 (zy seat J) 364 tf364:=zi (jo J) Tryz.func153 (by kernel_rfl) (by kernel_rfl)
theorem oJ298:Ok1 (zy seat J) 298 tf298:=zi (jo J) Tryz.func152 (by kernel_rfl) (by kernel_rfl)
theorem oJ361:Ok1 (zy seat J) 361 tf361:=zi (jo J) Tryz.func112 (by kernel_rfl) (by kernel_rfl)
theorem atJ:AtAt (zy seat J) J:=fun g hg=>by
 have hall:only 80 351 fns=true:=by kernel_rfl
 have hm:=all_eq_true.1 hall _ (qi _ _ _ hg);have hg':g=80:=by simpa using hm
 subst hg';exact ⟨60,112,by kernel_rfl,by kernel_rfl,fun hb h1 h2 h3 h4 h5 h6 h7 h8 h9 h10 h11=>Go.Proofs.TryzSolve.at_calls hb h1 h2 h3 h4 h5 h6 h7 h8 h9 h10 h11⟩
theorem R351n (hok:JOk J):∀ n,Rt (zy seat J) (k351 J n):=r351 hok (atJ J) (RJ49 J) fun _ h=>r361 (oJ361 J) (r298_364 (oJ298 J) (RJ33 J) (RJ34 J) (RJ35 J) (r364 (oJ364 J) h (RJ37 J) (RJ70 J)) (RJ8 J)) (RJ33 J) h (RJ353 J) (RJ47 J) (RJ57 J) (RJ70 J)
theorem knows (hok:JOk J):JKnows seat J:=⟨r351w (R351n J hok),RJ40 J,RJ69 J⟩
end
theorem o332:AllAt seat:=fun g hg=>by
 have hall:only 39 332 fns=true:=by kernel_rfl
 have hm:=all_eq_true.1 hall _ (qi _ _ _ hg);have hg':g=39:=by simpa using hm
 subst hg';exact ⟨78,79,Tryz.f79,Tryz.f39,Go.Proofs.TryzSolve.rest332,by kernel_rfl,Tryz.func79,by kernel_rfl,rfl,fun J=>by kernel_rfl,by kernel_rfl,rfl,fun h1 h2 h3 h4=>Go.Proofs.TryzSolve.all_walk h1 h2 h3 h4,fun h1 h2=>Go.Proofs.TryzSolve.all_err h1 h2⟩
theorem R332:Rt seat k332:=r332 zf ziF R349 R355 R40 knows o332
theorem R339:Rt seat k339:=r339 (zi zf Tryz.func53 (by kernel_rfl) (by kernel_rfl))
theorem R314:Rt seat k314:=r314 (zi zf Tryz.func13 (by kernel_rfl) (by kernel_rfl)) R132 R25 R317 R318 R332 R339
end Ab.Tryz
