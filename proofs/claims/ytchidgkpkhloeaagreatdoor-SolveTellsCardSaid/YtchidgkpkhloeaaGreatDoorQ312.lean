/-
  Plain law: what is told at any place of any cube, and by which dim.
-/
import Derived.Test.YtchidgkpkhloeaaGreatDoorW312
import Derived.Test.YtchidgkpkhloeaaGreatDoorHH
set_option linter.unusedVariables false
set_option linter.unusedSimpArgs false
namespace Ab
open Go
theorem p312 (o:List Dim) (l:List Entry) (hl:Lst Entry.gd l) (p:List Int) (hp:p.length<=9223372036854775807):P312 o l p=some true:=by
 simp only[P312,S312,P335_eq o l hl,P324_eq,P330_eq hl hp,P331_eq o p hp,P123_eq o p hp,zk,zm];by_cases h:(zeI o).2.2=0
 ·have ok:=zbm.1 h;have hlen:=ok.out.len;have hcu:wo o l=zeg o l:=by unfold wo;rw[if_pos h]
  by_cases hf0:ji o p=0
  ·have hf:=zaM.1 hf0;have h337:=zig hf (by rw[hf.len];omega) (fun d hd=>by have:=(ok.out.dims d hd).len;omega);by_cases he:zeg o l=0
   ·have okc:RightC o l:=(cube_ok hl).1 (hcu.trans he);simp[hcu,h,he,hf0,h337,P336_eq okc,zf6 ok.out hf,allC_at okc hf]
   ·simp[hcu,h,he,hf0,h337]
  ·by_cases he:zeg o l=0
   ·simp[hcu,h,he,hf0]
   ·simp[hcu,h,he,hf0]
 ·have hcu:wo o l=(zeI o).2.2:=by unfold wo;rw[if_neg h]
  simp[hcu,h]
end Ab
