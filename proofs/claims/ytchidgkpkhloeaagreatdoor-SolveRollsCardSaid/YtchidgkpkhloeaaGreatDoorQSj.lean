/-
  Plain laws: a formula that is a tree's text.
-/
import Derived.Test.YtchidgkpkhloeaaGreatDoorH8
set_option linter.unusedVariables false
set_option linter.unusedSimpArgs false
namespace Ab
open Go
theorem names_get {names:List ByteArray} {s:ByteArray} (g:ByteArray->Cell) (h:s∈names):(names.map g).getD (nmI names s).toNat ⟨0,0⟩=g s:=by
 obtain ⟨n,h1,h2⟩:=nmI_in h;rw[h1,Int.toNat_natCast,List.getD_eq_getElem?_getD,List.getElem?_map,List.getElem?_eq_getElem h2];simp only[Option.map_some,Option.getD_some,nmI_get h1 h2]
theorem zhS {e:Fx} (hf:e.Fine) (hz:e.sz<=30) (hs:e.text.size<=100):(rdT e.text).1=e.po 0∧(rdT e.text).2.2=0:=by
 have hb:=P248_back hf hz hs;rw[P248_eq] at hb;simp only[Option.some.injEq,Prod.mk.injEq] at hb;have h2:=zN (e:=(rdT e.text).2.2);rw[hb.2.2] at h2;exact ⟨hb.1,by simpa using h2⟩
theorem ev_text {e:Fx} (hf:e.Fine) (hz:e.sz<=30) (hs:e.text.size<=100) (names:List ByteArray) (cells:List Cell):(evL (rdT e.text).1 names cells (rdT e.text).1.length).getD ((rdT e.text).1.length - 1) ⟨0,0⟩=e.val names cells:=by
 rw[(zhS hf hz hs).1];have ht:=tr_po e [];have hp:=Fx.sz_pos e;have hl:=qK e 0;simp only[List.nil_append,List.length_nil,Nat.zero_add] at ht;rw[hl];exact val_eq names cells e (e.sz - 1) e.sz ht hf (by omega) (by omega)
theorem setI_nil':setI []=[]:=zag (zaZ _).1 (by simp) (zaZ []).2
end Ab
