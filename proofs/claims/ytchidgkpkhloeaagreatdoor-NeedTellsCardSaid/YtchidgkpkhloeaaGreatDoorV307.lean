/-
  The seat's program for the abstract machine, and the contracts of all functions that the law reaches: written by program (genlaw.py).
-/
import Derived.Test.YtchidgkpkhloeaaGreatDoorW307
import Derived.Test.YtchidgkpkhloeaaGreatDoorF5
import Derived.Test.YtchidgkpkhloeaaGreatDoorMNw
import Derived.Test.YtchidgkpkhloeaaGreatDoorMLw
import Derived.Test.YtchidgkpkhloeaaGreatDoorMDv
open List (all_eq_true)
namespace Ab.Tryz
open Go Go.Proofs
def fns:List (Nat×Nat):=[(3,304),(4,305),(5,306),(6,307),(7,308),(8,309),(9,310),(10,311),(11,312),(12,313),(13,314),(14,68),(15,315),(16,316),(17,92),(18,22),(19,317),(20,318),(21,319),(22,320),(23,321),(24,322),(25,323),(26,104),(27,324),(28,123),(29,325),(30,326),(31,327),(32,328),(33,130),(34,140),(35,329),(36,330),(37,331),(38,8),(39,332),(40,333),(41,110),(42,98),(43,132),(44,334),(45,335),(46,336),(47,337),(48,142),(49,24),(50,128),(51,338),(52,25),(53,339),(54,340),(55,341),(56,105),(57,50),(58,342),(59,58),(60,49),(61,69),(62,59),(63,343),(64,213),(65,344),(66,345),(67,346),(68,94),(69,14),(70,95),(71,247),(72,96),(73,347),(74,100),(75,348),(76,250),(77,102),(78,349),(79,350),(80,351),(81,352),(82,353),(83,30),(84,40),(85,27),(86,113),(87,51),(88,114),(89,122),(90,354),(91,28),(92,106),(93,55),(94,15),(95,355),(96,356),(97,357),(98,303),(99,358),(100,107),(101,44),(102,70),(103,216),(104,217),(105,359),(106,38),(107,39),(108,97),(109,257),(110,240),(111,360),(112,361),(113,60),(114,61),(115,45),(116,125),(117,151),(118,134),(119,243),(120,292),(121,146),(122,71),(123,72),(124,41),(125,42),(126,248),(127,37),(128,47),(129,302),(130,362),(131,363),(135,169),(136,76),(137,218),(138,219),(139,220),(140,221),(141,222),(142,223),(143,224),(144,225),(145,226),(146,227),(147,198),(148,65),(149,262),(150,253),(151,57),(152,298),(153,364),(154,33),(155,74),(156,48),(157,155),(158,150),(159,291),(160,147),(161,148),(162,73),(163,77),(164,78),(165,79),(166,66),(167,67),(168,258),(169,259),(170,241),(171,63),(172,64),(176,228),(177,229),(178,230),(179,231),(180,232),(181,84),(182,274),(183,34),(184,35),(185,81),(186,160),(187,80),(189,83),(190,75),(191,263),(192,264),(193,251),(194,252),(195,233),(196,62),(197,85),(198,275),(199,276),(200,277),(201,278),(202,86),(203,191),(204,283),(205,284),(206,285),(208,167),(209,175),(210,176),(211,181),(212,182),(213,183),(214,184),(215,185),(216,194),(217,195),(218,196),(219,157),(220,203),(221,204),(222,168),(223,177),(224,186),(225,187),(226,188),(227,189),(228,197),(229,199),(230,200),(231,201),(232,205),(233,206),(268,207)]
def tys:List (Nat×Nat):=[(102,1),(262,4)]
noncomputable def seat:Seat:={ P:=Tryz.prog,fns,tys,muts:=[(71,[1001]),(77,[1000]),(78,[1000,1002]),(213,[0]),(302,[1000])],own:=[72,76,79,363,343],glob:=[(0,Go.Proofs.Tryztold.handle)],more:=[4],hold:=Go.Proofs.TryzStr.hold,holdK:=Go.Proofs.TryzStr.holdK }
theorem zi:qI seat:=zhK (by kernel_rfl)
theorem zin:Plain seat:=⟨fun _ h=>h,fun _=>trivial⟩
theorem R104:Rt seat k104:=r104 (zq zi Tryz.func26 (by kernel_rfl) (by kernel_rfl))
theorem R123:Rt seat k123:=r123 (zq zi Tryz.func28 (by kernel_rfl) (by kernel_rfl))
theorem R100:Rt seat k100:=r100 (zq zi Tryz.func74 (by kernel_rfl) (by kernel_rfl))
theorem R102:Rt seat k102:=r102 (zq zi Tryz.func77 (by kernel_rfl) (by kernel_rfl)) R100
theorem R130:Rt seat k130:=r130 (zq zi Tryz.func33 (by kernel_rfl) (by kernel_rfl)) R102
theorem R140:Rt seat k140:=r140 (zq zi Tryz.func34 (by kernel_rfl) (by kernel_rfl))
theorem R67:Rt seat k67:=r67 (zq zi Tryz.func167 (by kernel_rfl) (by kernel_rfl))
theorem R75_67:Rt seat k75_67:=r75_67 (zq zi Tryz.func190 (by kernel_rfl) (by kernel_rfl)) R67
theorem R66_67:Rt seat k66_67:=r66_67 (zq zi Tryz.func166 (by kernel_rfl) (by kernel_rfl)) R75_67
theorem R41:Rt seat k41:=r41 (zq zi Tryz.func124 (by kernel_rfl) (by kernel_rfl)) R66_67
theorem R64:Rt seat k64:=r64 (zq zi Tryz.func172 (by kernel_rfl) (by kernel_rfl))
theorem R63_64:Rt seat k63_64:=r63_64 (zq zi Tryz.func171 (by kernel_rfl) (by kernel_rfl)) R64
theorem R37:Rt seat k37:=r37 (zq zi Tryz.func127 (by kernel_rfl) (by kernel_rfl)) R63_64
theorem R42:Rt seat k42:=r42 (zq zi Tryz.func125 (by kernel_rfl) (by kernel_rfl)) R37 R41
theorem R15:Rt seat k15:=r15 (zq zi Tryz.func94 (by kernel_rfl) (by kernel_rfl)) R41 R42
theorem o303:ReachAt seat:=fun g hg=>by
 have hall:only 98 303 fns=true:=by kernel_rfl
 have hm:=all_eq_true.1 hall _ (qz _ _ _ hg);have hg':g=98:=by simpa using hm
 subst hg';exact fun n i v W b hR hs hb=>Go.Proofs.TryzReach.reach_calls hR hs hb
theorem R303:Rt seat k303:=r303 o303
theorem o251:NodeAt seat:=fun g hg=>by
 have hall:only 193 251 fns=true:=by kernel_rfl
 have hm:=all_eq_true.1 hall _ (qz _ _ _ hg);have hg':g=193:=by simpa using hm
 subst hg';refine ⟨124,102,by kernel_rfl,by kernel_rfl,fun T' hT => ?_,fun l lv k x W hk h6 hN hnm=>Go.Proofs.TryzNode.node_calls l lv k x W hk h6 hN hnm⟩;have:=qz _ _ _ hT;simpa[seat,tys] using this
theorem R251:Rt seat k251:=r251 zin o251 R41
theorem R252:Rt seat k252:=r252 (zq zi Tryz.func194 (by kernel_rfl) (by kernel_rfl))
theorem R241:Rt seat k241:=r241 (zq zi Tryz.func170 (by kernel_rfl) (by kernel_rfl)) R251 R252
theorem o248:ParseAt seat:=fun g hg=>by
 have hall:only 126 248 fns=true:=by kernel_rfl
 have hm:=all_eq_true.1 hall _ (qz _ _ _ hg);have hg':g=126:=by simpa using hm
 subst hg'
 exact ⟨170,102,by kernel_rfl,by kernel_rfl,fun s W h=>Go.Proofs.TryzRead.parse_long s h W,fun s f b W hs hr=>Go.Proofs.TryzRead.parse_bad s hs f b hr W,fun s f i b l W hs hr hb=>Go.Proofs.TryzRead.parse_short s hs f i b l hr hb W,
  fun s f i b l W R hs hr hb hR hck=>Go.Proofs.TryzRead.parse_check s hs f i b l hr hb W R hR hck,fun s f i b l W hs hr hb hck=>Go.Proofs.TryzRead.parse_done s hs f i b l hr hb W hck⟩
theorem R248:Rt seat k248:=r248 zin o248 R241
theorem R355:Rt seat k355:=r355 (zq zi Tryz.func95 (by kernel_rfl) (by kernel_rfl)) R248
theorem o213:zhU seat:=fun g hg=>by
 have hall:only 64 213 fns=true:=by kernel_rfl
 have hm:=all_eq_true.1 hall _ (qz _ _ _ hg);have hg':g=64:=by simpa using hm
 subst hg';exact ⟨fun blk cap ss w hH hb hs=>Go.Proofs.Tryz.slices_Sort_int blk 0 cap ss w hH hb hs,fun p cap w=>Go.Proofs.Tryz.slices_Sort_int_none p cap w⟩
theorem R213:Rt seat k213:=r213 o213
theorem o302:CompIAt seat:=fun g hg=>by
 have hall:only 129 302 fns=true:=by kernel_rfl
 have hm:=all_eq_true.1 hall _ (qz _ _ _ hg);have hg':g=129:=by simpa using hm
 subst hg';exact ⟨fun blk cap zs w hH h1 h2=>Go.Proofs.Tryz.slices_Compact_int blk 0 cap zs w hH h1 h2,fun a cap w=>Go.Proofs.Tryz.slices_Compact_int_empty a cap w⟩
theorem R302:Rt seat k302:=r302 o302
theorem R47:Rt seat k47:=r47 (zq zi Tryz.func128 (by kernel_rfl) (by kernel_rfl))
theorem R356:Rt seat k356:=r356 (zq zi Tryz.func96 (by kernel_rfl) (by kernel_rfl)) R213 R302 R37 R47
theorem R362:Rt seat k362:=r362 (zq zi Tryz.func130 (by kernel_rfl) (by kernel_rfl))
theorem R357:Rt seat k357:=r357 (zq zi Tryz.func97 (by kernel_rfl) (by kernel_rfl)) R362
theorem R340:Rt seat k340:=r340 (zq zi Tryz.func54 (by kernel_rfl) (by kernel_rfl)) R15 R303 R355 R356 R357
theorem R39:Rt seat k39:=r39 (zq zi Tryz.func107 (by kernel_rfl) (by kernel_rfl))
theorem R65_39:Rt seat k65_39:=r65_39 (zq zi Tryz.func148 (by kernel_rfl) (by kernel_rfl)) R39
theorem R38_39:Rt seat k38_39:=r38_39 (zq zi Tryz.func106 (by kernel_rfl) (by kernel_rfl)) R65_39
theorem R40:Rt seat k40:=r40 (zq zi Tryz.func84 (by kernel_rfl) (by kernel_rfl))
theorem R14:Rt seat k14:=r14 (zq zi Tryz.func69 (by kernel_rfl) (by kernel_rfl)) R15 R38_39 R40
theorem R51:Rt seat k51:=r51 (zq zi Tryz.func87 (by kernel_rfl) (by kernel_rfl)) R14
theorem R342:Rt seat k342:=r342 (zq zi Tryz.func58 (by kernel_rfl) (by kernel_rfl)) R340 R51
theorem R58:Rt seat k58:=r58 (zq zi Tryz.func59 (by kernel_rfl) (by kernel_rfl))
theorem R49:Rt seat k49:=r49 (zq zi Tryz.func60 (by kernel_rfl) (by kernel_rfl))
theorem R69:Rt seat k69:=r69 (zq zi Tryz.func61 (by kernel_rfl) (by kernel_rfl))
theorem R44:Rt seat k44:=r44 (zq zi Tryz.func101 (by kernel_rfl) (by kernel_rfl)) R47
theorem R59:Rt seat k59:=r59 (zq zi Tryz.func62 (by kernel_rfl) (by kernel_rfl)) R44
theorem R353:Rt seat k353:=r353 (zq zi Tryz.func82 (by kernel_rfl) (by kernel_rfl)) R44
theorem R76:Rt seat k76:=r76 (zq zi Tryz.func136 (by kernel_rfl) (by kernel_rfl))
theorem R70:Rt seat k70:=r70 (zq zi Tryz.func102 (by kernel_rfl) (by kernel_rfl)) R76
theorem R343:Rt seat k343:=r343 (zq zi Tryz.func63 (by kernel_rfl) (by kernel_rfl)) R353 R49 R70
theorem o317:LeafsAt seat:=fun g hg=>by
 have hall:only 19 317 fns=true:=by kernel_rfl
 have hm:=all_eq_true.1 hall _ (qz _ _ _ hg);have hg':g=19:=by simpa using hm
 subst hg';exact ⟨58,59,60,61,62,63,64,by kernel_rfl,by kernel_rfl,by kernel_rfl,by kernel_rfl,by kernel_rfl,by kernel_rfl,by kernel_rfl,fun h1 h2 h3 h4 h5 h6 h7 h8 h9 h10 h11 h12=>Go.Proofs.TryzLeafs.leafs_walk h1 h2 h3 h4 h5 h6 h7 h8 h9 h10 h11 h12,fun h1 h2=>Go.Proofs.TryzLeafs.leafs_err1 h1 h2,fun h1 h2 h3=>Go.Proofs.TryzLeafs.leafs_err2 h1 h2 h3⟩
theorem R317:Rt seat k317:=r317 zin R342 R58 R49 R69 R59 R343 o213 o317
theorem R343s:Rt seat k343s:=r343s R343
theorem R344:Rt seat k344:=r344 (zq zi Tryz.func65 (by kernel_rfl) (by kernel_rfl)) R342 R343s R40 R69
theorem R346:Rt seat k346:=r346 (zq zi Tryz.func67 (by kernel_rfl) (by kernel_rfl))
theorem R359_346:Rt seat ze1:=r359_346 (zq zi Tryz.func105 (by kernel_rfl) (by kernel_rfl)) R346
theorem R345_346:Rt seat ze2:=r345_346 (zq zi Tryz.func66 (by kernel_rfl) (by kernel_rfl)) R359_346
theorem R318:Rt seat k318:=r318 (zq zi Tryz.func20 (by kernel_rfl) (by kernel_rfl)) R344 R345_346 R49 R58 R59
theorem R97:Rt seat k97:=r97 (zq zi Tryz.func108 (by kernel_rfl) (by kernel_rfl))
theorem R240:Rt seat k240:=r240 (zq zi Tryz.func110 (by kernel_rfl) (by kernel_rfl)) R97
theorem o247:ReadAt seat:=fun g hg=>by
 have hall:only 71 247 fns=true:=by kernel_rfl
 have hm:=all_eq_true.1 hall _ (qz _ _ _ hg);have hg':g=71:=by simpa using hm
 subst hg'
 exact ⟨110,by kernel_rfl,fun s W h=>Go.Proofs.TryzRead.readI_long s h W,fun s f b W hs hr=>Go.Proofs.TryzRead.readI_bad s hs f b hr W,fun s f i b l W hs hr hb=>Go.Proofs.TryzRead.readI_short s hs f i b l hr hb W,
  fun s f i b l n W hs hr hb hn hck=>Go.Proofs.TryzRead.readI_fault s hs f i b l n hr hb hn W hck,fun s f i b l W hs hr hb hck=>Go.Proofs.TryzRead.readI_done s hs f i b l hr hb W hck⟩
theorem R247:Rt seat k247:=r247 zin o247 R240
theorem R347:Rt seat k347:=r347 (zq zi Tryz.func73 (by kernel_rfl) (by kernel_rfl))
theorem R348:Rt seat k348:=r348 (zq zi Tryz.func75 (by kernel_rfl) (by kernel_rfl))
theorem R96:Rt seat k96:=r96 (zq zi Tryz.func72 (by kernel_rfl) (by kernel_rfl))
theorem R95:Rt seat k95:=r95 (zq zi Tryz.func70 (by kernel_rfl) (by kernel_rfl)) R96 R97
theorem R321:Rt seat k321:=r321 (zq zi Tryz.func23 (by kernel_rfl) (by kernel_rfl)) R100 R247 R347 R348 R95 R96
theorem R106:Rt seat k106:=r106 (zq zi Tryz.func92 (by kernel_rfl) (by kernel_rfl))
theorem R94:Rt seat k94:=r94 (zq zi Tryz.func68 (by kernel_rfl) (by kernel_rfl)) R106 R95
theorem R319:Rt seat k319:=r319 (zq zi Tryz.func21 (by kernel_rfl) (by kernel_rfl)) R321 R94
theorem R324:Rt seat k324:=r324 (zq zi Tryz.func27 (by kernel_rfl) (by kernel_rfl)) R319
theorem R250:Rt seat k250:=r250 (zq zi Tryz.func76 (by kernel_rfl) (by kernel_rfl))
theorem R337:Rt seat k337:=r337 (zq zi Tryz.func47 (by kernel_rfl) (by kernel_rfl)) R102
theorem R325:Rt seat k325:=r325 (zq zi Tryz.func29 (by kernel_rfl) (by kernel_rfl)) R140 R250 R337 R347
theorem R326:Rt seat k326:=r326 (zq zi Tryz.func30 (by kernel_rfl) (by kernel_rfl)) R321
theorem R142:Rt seat k142:=r142 (zq zi Tryz.func48 (by kernel_rfl) (by kernel_rfl))
theorem R338:Rt seat k338:=r338 (zq zi Tryz.func51 (by kernel_rfl) (by kernel_rfl)) R106 R142 R325 R326
theorem R327:Rt seat k327:=r327 (zq zi Tryz.func31 (by kernel_rfl) (by kernel_rfl)) R130 R140 R142 R338
theorem R328:Rt seat k328:=r328 (zq zi Tryz.func32 (by kernel_rfl) (by kernel_rfl)) R213 R342 R343 R58
theorem R329:Rt seat k329:=r329 (zq zi Tryz.func35 (by kernel_rfl) (by kernel_rfl)) R338
theorem R105a (x:Err) (y:Int) (hy:P105 x=some y):(za seat).ret 105 (encAL [.err] x) (encA .int y) []:=by
 intro g hg;have hall:only 56 105 fns=true:=by kernel_rfl
 have hm:=all_eq_true.1 hall _ (qz _ _ _ hg);have hg':g=56:=by simpa using hm
 subst hg';refine za3 (fun A w vs hl hA ha => ?_) (fun y hy=>by
  simp only[encAL,List.mem_singleton] at hy;subst hy;cases x<;>rfl)
 have hvs:vs.size=1:=by cases x<;>exact hl
 obtain ⟨v,rfl⟩:∃ v,vs=#[v]:=⟨vs[0],by
  apply Array.ext
  ·simpa using hvs
  ·intro i h1 h2;obtain rfl:i=0:=by omega
   rfl⟩
 cases x with
 | nil =>obtain rfl:y=0:=(Option.some.inj hy).symm;have hv:VR0 seat A w (.v .nilIface) v:=ha 0 _ rfl;obtain rfl:v=.nilIface:=VR.v_inv (σ:=fun _=>none) (.of0 hv);refine (Go.Proofs.Tryztold.told_nil w).mono fun e w' ⟨he,hw⟩ => ?_;subst hw;exact ⟨_,he,.refl _ _,fun _=>none,by simp,by simp,rfl,.v _⟩
 | no n =>
  obtain rfl:y=n:=(Option.some.inj hy).symm;have hv:VR0 seat A w (.ifc 1 (aI y)) v:=ha 0 _ rfl;obtain ⟨T,u,rfl,hT,hu⟩:∃ T u,v=.iface T u∧qi T tys=some 1∧VR0 seat A w (aI y) u:=by cases hv with | ifc h1 h2=>exact ⟨_,_,rfl,h1,h2⟩
  obtain rfl:u=.int .i64 y:=VR.v_inv (σ:=fun _=>none) (.of0 hu);obtain rfl:T=102:=(by have:=qz _ _ _ hT;simpa[tys] using this);refine (Go.Proofs.Tryztold.told_no y w (hA.2.1 (0,_) (List.mem_singleton.2 rfl))).mono fun e w' ⟨he,hb⟩ => ?_;exact ⟨_,he,⟨hb.os,hb.tape,hb.output,hb.size,fun k hk _=>hb.block k hk⟩,fun _=>none,by simp,by simp,rfl,.v _⟩
 | oth t=>cases hy
theorem R105:Rt seat k105:=fun x y hy=>R105a x y hy
theorem R92:Rt seat k92:=r92 (zq zi Tryz.func17 (by kernel_rfl) (by kernel_rfl)) R105
theorem R307:Rt seat k307:=r307 (zq zi Tryz.func6 (by kernel_rfl) (by kernel_rfl)) R104 R123 R130 R140 R317 R318 R324 R325 R326 R327 R328 R329 R92
end Ab.Tryz
