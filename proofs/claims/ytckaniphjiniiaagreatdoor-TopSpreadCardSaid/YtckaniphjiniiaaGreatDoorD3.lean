import Derived.Test.YtckaniphjiniiaaGreatDoorD2
import Derived.WalkSmall
import Derived.Defers
import Derived.Recover
import Derived.RegionTactic
import Derived.ChangeAlike
open Nat (le_refl le_trans zero_le)
open Bool (not_eq_true)
set_option linter.all false
set_option maxRecDepth 100000
set_option maxHeartbeats 16000000
section
namespace Go.Proofs.TryzRead
open Go Go.RowKit Ab
def PostR (rb n1:Nat) (s:ByteArray) (W:World) (v:Value) (r:PR) (e:Ending) (W':World):Prop :=
 match r with
 | .ok i a l=>∃v',e=.returned (.int .i64 i)∧RD rb n1 s W' a v' l∧a<=s.size∧Stp (some rb) v W W' v'
 | .bad a=>∃v',e=.panicked [{ v:=.iface 124 (.agg #[.int .i64 a]),recovered:=false }]∧Stp (some rb) v W W' v'
def zfo (rb n1:Nat) (s:ByteArray) (id:FuncId) (f:Nat) (m:Md):Prop:=∀(W:World) (a:Nat) (v:Value) (l:List Ab.Node) (r:PR),rd s f m a l=some r->RD rb n1 s W a v l->a<=s.size ->
 Calls Tryz.prog id #[.pointer (some ⟨rb,0,none⟩)] W (PostR rb n1 s W v r)
def one_name {rb n1:Nat} {s:ByteArray} {W:World} {a:Nat} {v:Value} {l:List Ab.Node} (h:RD rb n1 s W a v l) (hs:s.size<=1000) (hd:dgB (pk s a)=false) (aj:ltB (pk s a)=true) (hl:l.length<1000) :
  Calls Tryz.prog 99 #[.pointer (some ⟨rb,0,none⟩)] W fun e W'=>∃v',e=.returned (.int .i64 l.length)∧RD rb n1 s W' (zgY s (s.size+1) a) v' (l++[⟨2,0,s.extract a (zgY s (s.size+1) a),0,0⟩])∧Stp (some rb) v W W' v':=by
 have c1:=h.c1;have ha:=lt_lt aj;have eS:a<=s.size:=by omega
 go_enter Tryz.func99,Tryz.ntmps99
 go_wp2_with (first
  | (go_at_call 96;go_must (refine (zw h hs eS).mono ?_);rintro e X ⟨rfl,q,rfl⟩)
  | (go_at_call 106;go_must (refine (qj _ _).mono ?_);rintro e X ⟨rfl,rfl⟩)
  | (go_at_call 108;go_must (refine (qK _ _).mono ?_);rintro e X ⟨rfl,rfl⟩))
 go_loopw [20] (fun _ wr=>∃(i f:Nat),a<=i∧i+f=a+(s.size+1)∧i<=s.size∧RD rb n1 s wr i v l∧zgY s f i=zgY s (s.size+1) a∧Stp (some rb) v W wr v) (fun _ wr=>a+(s.size+1)-atOf wr rb)
 case atStart=>exact⟨a,s.size+1,le_refl _,rfl,eS,h.drewN _,rfl,zE (yW _ _ _) _⟩
 case round =>
  obtain⟨i,f,hai,hif,ig,hR,hE,hS⟩:=hrel;have q0:=hR.c0;have q1:=hR.c1;have qf:=hR.fr 1;obtain⟨f,rfl⟩:∃f',f=f'+1:=⟨f-1,by omega⟩;by_cases fU:ltB (pk s i)=true
  ·have di:zgY s (f+1) i=zgY s f (i+1):=by simp only[zgY];rw[if_pos fU]
   go_wp2_with (first
    | (go_at_call 96;go_must (refine (zw hR hs ig).mono ?_);rintro e X ⟨rfl,q,rfl⟩)
    | (go_at_call 108;go_must (refine (qK _ _).mono ?_);rintro e X ⟨rfl,rfl⟩))
   go_roundw
   case rel =>
    refine⟨i+1,f,by omega,by omega,lt_lt fU, ?_,di.symm.trans hE,qR (zE hS _) (.inr rfl) _⟩;rw[show ((i:Int)+1)=((i+1:Nat):Int) by omega];exact (hR.drewN _).go _
   case measure =>
    have m1:=js hR;have m2:=js ((hR.drewN q).go (i+1));rw[show ((i+1:Nat):Int)=(i:Int)+1 by omega] at m2;rw[m1,m2];omega
  ·rw[not_eq_true] at fU;have di:zgY s (f+1) i=i:=by simp only[zgY];rw[if_neg (by rw[fU];simp)]
   have b0:(0:Int)<=(a:Int):=Int.natCast_nonneg _;have b1:(a:Int)<=(i:Int):=by omega
   have b2:(i:Int)<=(s.size:Int):=by omega
   go_wp2_with (first
    | (go_at_call 96;go_must (refine (zw hR hs ig).mono ?_);rintro e X ⟨rfl,q,rfl⟩)
    | (go_at_call 108;go_must (refine (qK _ _).mono ?_);rintro e X ⟨rfl,rfl⟩))
   go_region_held3 (fun w'=>w'.cell? ⟨rb,0,none⟩=some (.string s)∧w'.cell? ⟨rb,1,none⟩=some (.int .i64 i)) (first|go_keep|exact⟨hY.c0,hY.c1⟩) ((go_at_call 98;go_loud (refine (jU (hR.drewN _) ⟨2,0,s.extract a i,0,0⟩ hl).mono ?_);rintro e Y ⟨v',rfl,hY,sY⟩))
   go_wp2
   go_ret;exact⟨v',rfl,by rw[←hE,di];exact hY,(zE hS _).trans sY⟩
def one_bad {rb n1:Nat} {s:ByteArray} {W:World} {a:Nat} {v:Value} {l:List Ab.Node} (h:RD rb n1 s W a v l) (hs:s.size<=1000) (ha:a<=s.size) (hd:dgB (pk s a)=false) (aj:ltB (pk s a)=false) (dQ:pk s a≠40) :
  Calls Tryz.prog 99 #[.pointer (some ⟨rb,0,none⟩)] W (PostR rb n1 s W v (.bad a)):=by
 have c1:=h.c1;have g1:¬((pk s a:Nat):Int)=40:=by omega
 have g2:(((pk s a:Nat):Int) != 40)=true:=by simpa using g1
 go_enter Tryz.func99,Tryz.ntmps99
 go_wp2_with (first
  | (go_at_call 96;go_must (refine (zw h hs ha).mono ?_);rintro e X ⟨rfl,q,rfl⟩)
  | (go_at_call 106;go_must (refine (qj _ _).mono ?_);rintro e X ⟨rfl,rfl⟩)
  | (go_at_call 108;go_must (refine (qK _ _).mono ?_);rintro e X ⟨rfl,rfl⟩))
 exact⟨rfl,v,rfl,zE (yW _ _ _) _⟩
def one_calls {rb n1:Nat} {s:ByteArray} (hs:s.size<=1000) {f:Nat} (cR:zfo rb n1 s 73 f (.row true)):zfo rb n1 s 99 (f+1) .one:=by
 intro W a v l r hr h ha;simp only[rd] at hr;split at hr
 ·cases hr
 rename_i hl;have hl:l.length<1000:=by omega
 by_cases hd:dgB (pk s a)=true
 ·rw[if_pos hd] at hr;cases hr;have c1:=h.c1
  go_enter Tryz.func99,Tryz.ntmps99
  go_wp2_with (first
   | (go_at_call 96;go_must (refine (zw h hs ha).mono ?_);rintro e X ⟨rfl,q,rfl⟩)
   | (go_at_call 106;go_must (refine (qj _ _).mono ?_);rintro e X ⟨rfl,rfl⟩)
   | (go_at_call 107;go_must (refine (zis (h.drewN _) hs hd hl).mono ?_);rintro e Y ⟨v',rfl,hY,sY⟩))
  go_ret;exact⟨v',rfl,hY,(zbp s a 8 a).2.2.2 ha,(zE (yW _ _ _) _).trans sY⟩
 rw[if_neg hd] at hr;rw[not_eq_true] at hd;by_cases aj:ltB (pk s a)=true
 ·rw[if_pos aj] at hr;cases hr;refine (one_name h hs hd aj hl).mono ?_;rintro e Y ⟨v',rfl,hY,sY⟩;exact⟨v',rfl,hY,(zep s (s.size+1) a).2.2 ha,sY⟩
 rw[if_neg aj] at hr;rw[not_eq_true] at aj;by_cases dQ:pk s a≠40
 ·rw[if_pos dQ] at hr;cases hr;exact one_bad h hs ha hd aj dQ
 rw[if_neg dQ] at hr;have dQ:pk s a=40:=Decidable.byContradiction dQ;have c1:=h.c1;have cf:=h.fr 1;have mI:a+1<=s.size:=zgP (by omega);have hE:(match rd s f (.row true) (a+1) l with|some (.ok i a l')=>if pk s a≠41 then some (PR.bad a) else some (.ok i (a+1) l')|r=>r)=some r:=hr
 cases aL:rd s f (.row true) (a+1) l with
 | none=>rw[aL] at hE;cases hE
 | some r0 =>
  rw[aL] at hE;cases r0 with
  | bad b =>
   cases hE
   go_enter Tryz.func99,Tryz.ntmps99
   go_wp2_with (first
    | (go_at_call 96;go_must (refine (zw h hs ha).mono ?_);rintro e X ⟨rfl,q,rfl⟩)
    | (go_at_call 106;go_must (refine (qj _ _).mono ?_);rintro e X ⟨rfl,rfl⟩)
    | (go_at_call 108;go_must (refine (qK _ _).mono ?_);rintro e X ⟨rfl,rfl⟩)
    | (go_at_call 73;go_must (refine (cR _ _ _ _ _ aL ((h.drewN _).go (a+1)) mI).mono ?_);rintro e Y ⟨v',rfl,sY⟩))
   exact⟨rfl,v',rfl,(qR (p:=⟨rb,1,none⟩) (zE (yW _ _ _) _) (.inr rfl) _).trans sY⟩
  | ok i b l' =>
   simp only at hE;by_cases mP:pk s b≠41
   ·rw[if_pos mP] at hE;cases hE;have g1:¬((pk s b:Nat):Int)=41:=by omega
    have g2:(((pk s b:Nat):Int) != 41)=true:=by simpa using g1
    go_enter Tryz.func99,Tryz.ntmps99
    go_wp2_with (first
     | (go_at_call 96;refine (zw hY hs hb).mono ?_;rintro e Z ⟨rfl,q2,rfl⟩)
     | (go_at_call 96;go_must (refine (zw h hs ha).mono ?_);rintro e X ⟨rfl,q,rfl⟩)
     | (go_at_call 106;go_must (refine (qj _ _).mono ?_);rintro e X ⟨rfl,rfl⟩)
     | (go_at_call 108;go_must (refine (qK _ _).mono ?_);rintro e X ⟨rfl,rfl⟩)
     | (go_at_call 73;go_must (refine (cR _ _ _ _ _ aL ((h.drewN _).go (a+1)) mI).mono ?_);rintro e Y ⟨v',rfl,hY,hb,sY⟩;have y1:=hY.c1;have yf:=hY.fr 1))
    exact⟨rfl,v',rfl,zE ((qR (p:=⟨rb,1,none⟩) (zE (yW _ _ _) _) (.inr rfl) _).trans sY) _⟩
   ·rw[if_neg mP] at hE;cases hE;have g1:pk s b=41:=Decidable.byContradiction mP
    go_enter Tryz.func99,Tryz.ntmps99
    go_wp2_with (first
     | (go_at_call 96;refine (zw hY hs hb).mono ?_;rintro e Z ⟨rfl,q2,rfl⟩)
     | (go_at_call 96;go_must (refine (zw h hs ha).mono ?_);rintro e X ⟨rfl,q,rfl⟩)
     | (go_at_call 106;go_must (refine (qj _ _).mono ?_);rintro e X ⟨rfl,rfl⟩)
     | (go_at_call 108;go_must (refine (qK _ _).mono ?_);rintro e X ⟨rfl,rfl⟩)
     | (go_at_call 73;go_must (refine (cR _ _ _ _ _ aL ((h.drewN _).go (a+1)) mI).mono ?_);rintro e Y ⟨v',rfl,hY,hb,sY⟩;have y1:=hY.c1;have yf:=hY.fr 1))
    go_ret;refine⟨v',rfl, ?_,zgP (by omega),qR (zE ((qR (p:=⟨rb,1,none⟩) (zE (yW _ _ _) _) (.inr rfl) _).trans sY) _) (.inr rfl) _⟩;exact (hY.drewN _).go (b+1)
end Go.Proofs.TryzRead
end
section
namespace Go.Proofs.TryzRead
open Go Go.RowKit Ab
def zbh (t:ByteArray) (c:Nat) (n:Int) (h:Lib.indexByte t.data.toList ((c:Nat):Int).toNat.toUInt8=n) (W:World):Calls Tryz.prog 97 #[.string t,.int .u8 c] W fun e W'=>e=.returned (.int .i64 n)∧W'=W:=by have:=Tryz.strings_IndexByte t (c:Int) W;rw[h] at this;exact this
def idx_a42 (W:World):Calls Tryz.prog 97 #[.string ⟨#[42,47]⟩,.int .u8 42] W fun e W'=>e=.returned (.int .i64 0)∧W'=W:=zbh ⟨#[42,47]⟩ 42 0 (by decide+kernel) W
def idx_b42 (W:World):Calls Tryz.prog 97 #[.string ⟨#[43,45,42,47]⟩,.int .u8 42] W fun e W'=>e=.returned (.int .i64 2)∧W'=W:=zbh ⟨#[43,45,42,47]⟩ 42 2 (by decide+kernel) W
def idx_a47 (W:World):Calls Tryz.prog 97 #[.string ⟨#[42,47]⟩,.int .u8 47] W fun e W'=>e=.returned (.int .i64 1)∧W'=W:=zbh ⟨#[42,47]⟩ 47 1 (by decide+kernel) W
def idx_b47 (W:World):Calls Tryz.prog 97 #[.string ⟨#[43,45,42,47]⟩,.int .u8 47] W fun e W'=>e=.returned (.int .i64 3)∧W'=W:=zbh ⟨#[43,45,42,47]⟩ 47 3 (by decide+kernel) W
def idx_a43 (W:World):Calls Tryz.prog 97 #[.string ⟨#[43,45]⟩,.int .u8 43] W fun e W'=>e=.returned (.int .i64 0)∧W'=W:=zbh ⟨#[43,45]⟩ 43 0 (by decide+kernel) W
def idx_b43 (W:World):Calls Tryz.prog 97 #[.string ⟨#[43,45,42,47]⟩,.int .u8 43] W fun e W'=>e=.returned (.int .i64 0)∧W'=W:=zbh ⟨#[43,45,42,47]⟩ 43 0 (by decide+kernel) W
def idx_a45 (W:World):Calls Tryz.prog 97 #[.string ⟨#[43,45]⟩,.int .u8 45] W fun e W'=>e=.returned (.int .i64 1)∧W'=W:=zbh ⟨#[43,45]⟩ 45 1 (by decide+kernel) W
def idx_b45 (W:World):Calls Tryz.prog 97 #[.string ⟨#[43,45,42,47]⟩,.int .u8 45] W fun e W'=>e=.returned (.int .i64 1)∧W'=W:=zbh ⟨#[43,45,42,47]⟩ 45 1 (by decide+kernel) W
def idx_false (c:Nat) (hc:c<256) (h:eI false c=false) (W:World):Calls Tryz.prog 97 #[.string ⟨#[42,47]⟩,.int .u8 c] W fun e W'=>e=.returned (.int .i64 (-1))∧W'=W:=by
 have all:∀c:Fin 256,eI false c.val=false->Lib.indexByte (⟨#[42,47]⟩:ByteArray).data.toList ((c.val:Nat):Int).toNat.toUInt8 = -1:=by decide+kernel
 exact zbh _ c _ (all ⟨c,hc⟩ h) W
def idx_true (c:Nat) (hc:c<256) (h:eI true c=false) (W:World):Calls Tryz.prog 97 #[.string ⟨#[43,45]⟩,.int .u8 c] W fun e W'=>e=.returned (.int .i64 (-1))∧W'=W:=by
 have all:∀c:Fin 256,eI true c.val=false->Lib.indexByte (⟨#[43,45]⟩:ByteArray).data.toList ((c.val:Nat):Int).toNat.toUInt8 = -1:=by decide+kernel
 exact zbh _ c _ (all ⟨c,hc⟩ h) W
def zid {rb n1:Nat} {s:ByteArray} (hs:s.size<=1000) {f:Nat} (aL:∀k,k<=f->zfo rb n1 s 99 k (zfL false)) (W:World) (a:Nat) (v:Value) (l:List Ab.Node) (r:PR) (hr:rd s (f+1) (.row false) a l=some r) (h:RD rb n1 s W a v l) (ha:a<=s.size) :
  Calls Tryz.prog 85 #[.pointer (some ⟨rb,0,none⟩),.string ⟨#[42,47]⟩,.func (.func 99) #[.pointer (some ⟨rb,0,none⟩)] #[]] W (PostR rb n1 s W v r):=by
 simp only[rd] at hr;have hE:(match rd s f (zfL false) a l with|some (.ok i a l')=>rd s f (.more false i) a l'|r=>r)=some r:=hr
 cases gv:rd s f (zfL false) a l with
 | none=>rw[gv] at hE;cases hE
 | some r0 =>
 rw[gv] at hE;cases r0 with
 | bad b =>
  cases hE
  go_enter Tryz.func85,Tryz.ntmps85
  go_wp2_with (go_at_call 99;go_must (refine (aL f (le_refl _) _ _ _ _ _ gv h ha).mono ?_);rintro e Y ⟨v',rfl,sY⟩)
  exact⟨rfl,v',rfl,sY⟩
 | ok i0 b0 l0 =>
 go_enter Tryz.func85,Tryz.ntmps85
 go_wp2_with (go_at_call 99;go_must (refine (aL f (le_refl _) _ _ _ _ _ gv h ha).mono ?_);rintro e Y ⟨v',rfl,rH,cZ,sY0⟩)
 go_loopw [7] (fun t wr=>∃(k i at_:Nat) (l1:List Ab.Node) (v1:Value),t=.int .i64 i∧k<=f∧rd s k (.more false i) at_ l1=some r∧at_<=s.size∧RD rb n1 s wr at_ v1 l1∧Stp (some rb) v W wr v1) (fun _ wr=>s.size-atOf wr rb)
 case atStart=>exact⟨f,i0,b0,l0,v',rfl,le_refl _,hE,cZ,rH,sY0⟩
 case round =>
  obtain⟨k,i,at_,l1,v1,rfl,hkf,hm,ba,hR,hS⟩:=hrel;have q1:=hR.c1;have qf:=hR.fr 1;have kx:=pk_256 s at_;obtain⟨k,rfl⟩:∃k',k=k'+1:=by
   cases k with
   | zero=>cases hm
   | succ k=>exact⟨k,rfl⟩
  simp only[rd] at hm;by_cases hc:pk s at_=42
  ·have eA:eI false (pk s at_)=true:=by rw[hc];rfl
   rw[if_neg (by rw[eA];simp),hc] at hm;have bS:at_+1<=s.size:=zgP (by omega);cases aM:rd s k (zfL false) (at_+1) l1 with
   | none=>rw[aM] at hm;cases hm
   | some r1 =>
    rw[aM] at hm;cases r1 with
    | bad b =>
     cases hm
     go_wp2_with (first
    | (go_at_call 96;go_must (refine (zw hR hs ba).mono ?_);rintro e X ⟨rfl,q,rfl⟩)
    | (go_at_call 97;(first|refine (idx_a42 _).mono ?_|refine (idx_b42 _).mono ?_);rintro e X ⟨rfl,rfl⟩)
    | (go_at_call 99;go_must (refine (aL k (by omega) _ _ _ _ _ aM ((hR.drewN _).go (at_+1)) bS).mono ?_);rintro e Y ⟨v2,rfl,sY⟩))
     exact⟨rfl,v2,rfl,((qR (p:=⟨rb,1,none⟩) (zE hS _) (.inr rfl) _).trans sY)⟩
    | ok j b l2 =>
     simp only at hm;split at hm
     ·cases hm
     rename_i dD;have dD:l2.length<1000:=by omega
     go_wp2_with (first
    | (go_at_call 96;go_must (refine (zw hR hs ba).mono ?_);rintro e X ⟨rfl,q,rfl⟩)
    | (go_at_call 97;(first|refine (idx_a42 _).mono ?_|refine (idx_b42 _).mono ?_);rintro e X ⟨rfl,rfl⟩)
    | (go_at_call 98;go_must (refine (jU hY ⟨5,0,⟨#[]⟩,(i:Int),(j:Int)⟩ dD).mono ?_);rintro e Z ⟨v3,rfl,hZ,sZ⟩)
    | (go_at_call 99;go_must (refine (aL k (by omega) _ _ _ _ _ aM ((hR.drewN _).go (at_+1)) bS).mono ?_);rintro e Y ⟨v2,rfl,hY,hb,sY⟩))
     go_roundw
     case rel =>
      refine⟨k,l2.length,b,l2++[⟨5,0,⟨#[]⟩,(i:Int),(j:Int)⟩],v3,rfl,by omega,hm,hb,hZ,((qR (p:=⟨rb,1,none⟩) (zE hS _) (.inr rfl) _).trans sY).trans sZ⟩
     case measure =>
      have m1:=js hR;have m2:=js hZ;have:=zgM s k _ _ _ _ _ _ aM;rw[m1,m2];omega
  by_cases dP:pk s at_=47
  ·have hc:=dP;have eA:eI false (pk s at_)=true:=by rw[hc];rfl
   rw[if_neg (by rw[eA];simp),hc] at hm;have bS:at_+1<=s.size:=zgP (by omega);cases aM:rd s k (zfL false) (at_+1) l1 with
   | none=>rw[aM] at hm;cases hm
   | some r1 =>
    rw[aM] at hm;cases r1 with
    | bad b =>
     cases hm
     go_wp2_with (first
    | (go_at_call 96;go_must (refine (zw hR hs ba).mono ?_);rintro e X ⟨rfl,q,rfl⟩)
    | (go_at_call 97;(first|refine (idx_a47 _).mono ?_|refine (idx_b47 _).mono ?_);rintro e X ⟨rfl,rfl⟩)
    | (go_at_call 99;go_must (refine (aL k (by omega) _ _ _ _ _ aM ((hR.drewN _).go (at_+1)) bS).mono ?_);rintro e Y ⟨v2,rfl,sY⟩))
     exact⟨rfl,v2,rfl,((qR (p:=⟨rb,1,none⟩) (zE hS _) (.inr rfl) _).trans sY)⟩
    | ok j b l2 =>
     simp only at hm;split at hm
     ·cases hm
     rename_i dD;have dD:l2.length<1000:=by omega
     go_wp2_with (first
    | (go_at_call 96;go_must (refine (zw hR hs ba).mono ?_);rintro e X ⟨rfl,q,rfl⟩)
    | (go_at_call 97;(first|refine (idx_a47 _).mono ?_|refine (idx_b47 _).mono ?_);rintro e X ⟨rfl,rfl⟩)
    | (go_at_call 98;go_must (refine (jU hY ⟨6,0,⟨#[]⟩,(i:Int),(j:Int)⟩ dD).mono ?_);rintro e Z ⟨v3,rfl,hZ,sZ⟩)
    | (go_at_call 99;go_must (refine (aL k (by omega) _ _ _ _ _ aM ((hR.drewN _).go (at_+1)) bS).mono ?_);rintro e Y ⟨v2,rfl,hY,hb,sY⟩))
     go_roundw
     case rel =>
      refine⟨k,l2.length,b,l2++[⟨6,0,⟨#[]⟩,(i:Int),(j:Int)⟩],v3,rfl,by omega,hm,hb,hZ,((qR (p:=⟨rb,1,none⟩) (zE hS _) (.inr rfl) _).trans sY).trans sZ⟩
     case measure =>
      have m1:=js hR;have m2:=js hZ;have:=zgM s k _ _ _ _ _ _ aM;rw[m1,m2];omega
  have bJ:eI false (pk s at_)=false:=by simp[eI,hc,dP]
  rw[if_pos bJ] at hm;cases hm;by_cases h0:pk s at_=0
  ·go_wp2_with (first
    | (go_at_call 96;go_must (refine (zw hR hs ba).mono ?_);rintro e X ⟨rfl,q,rfl⟩))
   go_ret;exact⟨v1,rfl,hR.drewN _,ba,zE hS _⟩
  ·have g1:¬((pk s at_:Nat):Int)=0:=by omega
   have g2:(((pk s at_:Nat):Int) == 0)=false:=by simpa using h0
   go_wp2_with (first
    | (go_at_call 96;go_must (refine (zw hR hs ba).mono ?_);rintro e X ⟨rfl,q,rfl⟩)
    | (go_at_call 97;go_must (refine (idx_false _ kx bJ _).mono ?_);rintro e X ⟨rfl,rfl⟩))
   go_ret;exact⟨v1,rfl,hR.drewN _,ba,zE hS _⟩
def su {rb n1:Nat} {s:ByteArray} (hs:s.size<=1000) {f:Nat} (aL:∀k,k<=f->zfo rb n1 s 86 k (zfL true)) (W:World) (a:Nat) (v:Value) (l:List Ab.Node) (r:PR) (hr:rd s (f+1) (.row true) a l=some r) (h:RD rb n1 s W a v l) (ha:a<=s.size) :
  Calls Tryz.prog 85 #[.pointer (some ⟨rb,0,none⟩),.string ⟨#[43,45]⟩,.func (.func 86) #[.pointer (some ⟨rb,0,none⟩)] #[]] W (PostR rb n1 s W v r):=by
 simp only[rd] at hr;have hE:(match rd s f (zfL true) a l with|some (.ok i a l')=>rd s f (.more true i) a l'|r=>r)=some r:=hr
 cases gv:rd s f (zfL true) a l with
 | none=>rw[gv] at hE;cases hE
 | some r0 =>
 rw[gv] at hE;cases r0 with
 | bad b =>
  cases hE
  go_enter Tryz.func85,Tryz.ntmps85
  go_wp2_with (go_at_call 86;go_must (refine (aL f (le_refl _) _ _ _ _ _ gv h ha).mono ?_);rintro e Y ⟨v',rfl,sY⟩)
  exact⟨rfl,v',rfl,sY⟩
 | ok i0 b0 l0 =>
 go_enter Tryz.func85,Tryz.ntmps85
 go_wp2_with (go_at_call 86;go_must (refine (aL f (le_refl _) _ _ _ _ _ gv h ha).mono ?_);rintro e Y ⟨v',rfl,rH,cZ,sY0⟩)
 go_loopw [7] (fun t wr=>∃(k i at_:Nat) (l1:List Ab.Node) (v1:Value),t=.int .i64 i∧k<=f∧rd s k (.more true i) at_ l1=some r∧at_<=s.size∧RD rb n1 s wr at_ v1 l1∧Stp (some rb) v W wr v1) (fun _ wr=>s.size-atOf wr rb)
 case atStart=>exact⟨f,i0,b0,l0,v',rfl,le_refl _,hE,cZ,rH,sY0⟩
 case round =>
  obtain⟨k,i,at_,l1,v1,rfl,hkf,hm,ba,hR,hS⟩:=hrel;have q1:=hR.c1;have qf:=hR.fr 1;have kx:=pk_256 s at_;obtain⟨k,rfl⟩:∃k',k=k'+1:=by
   cases k with
   | zero=>cases hm
   | succ k=>exact⟨k,rfl⟩
  simp only[rd] at hm;by_cases hc:pk s at_=43
  ·have eA:eI true (pk s at_)=true:=by rw[hc];rfl
   rw[if_neg (by rw[eA];simp),hc] at hm;have bS:at_+1<=s.size:=zgP (by omega);cases aM:rd s k (zfL true) (at_+1) l1 with
   | none=>rw[aM] at hm;cases hm
   | some r1 =>
    rw[aM] at hm;cases r1 with
    | bad b =>
     cases hm
     go_wp2_with (first
    | (go_at_call 96;go_must (refine (zw hR hs ba).mono ?_);rintro e X ⟨rfl,q,rfl⟩)
    | (go_at_call 97;(first|refine (idx_a43 _).mono ?_|refine (idx_b43 _).mono ?_);rintro e X ⟨rfl,rfl⟩)
    | (go_at_call 86;go_must (refine (aL k (by omega) _ _ _ _ _ aM ((hR.drewN _).go (at_+1)) bS).mono ?_);rintro e Y ⟨v2,rfl,sY⟩))
     exact⟨rfl,v2,rfl,((qR (p:=⟨rb,1,none⟩) (zE hS _) (.inr rfl) _).trans sY)⟩
    | ok j b l2 =>
     simp only at hm;split at hm
     ·cases hm
     rename_i dD;have dD:l2.length<1000:=by omega
     go_wp2_with (first
    | (go_at_call 96;go_must (refine (zw hR hs ba).mono ?_);rintro e X ⟨rfl,q,rfl⟩)
    | (go_at_call 97;(first|refine (idx_a43 _).mono ?_|refine (idx_b43 _).mono ?_);rintro e X ⟨rfl,rfl⟩)
    | (go_at_call 98;go_must (refine (jU hY ⟨3,0,⟨#[]⟩,(i:Int),(j:Int)⟩ dD).mono ?_);rintro e Z ⟨v3,rfl,hZ,sZ⟩)
    | (go_at_call 86;go_must (refine (aL k (by omega) _ _ _ _ _ aM ((hR.drewN _).go (at_+1)) bS).mono ?_);rintro e Y ⟨v2,rfl,hY,hb,sY⟩))
     go_roundw
     case rel =>
      refine⟨k,l2.length,b,l2++[⟨3,0,⟨#[]⟩,(i:Int),(j:Int)⟩],v3,rfl,by omega,hm,hb,hZ,((qR (p:=⟨rb,1,none⟩) (zE hS _) (.inr rfl) _).trans sY).trans sZ⟩
     case measure =>
      have m1:=js hR;have m2:=js hZ;have:=zgM s k _ _ _ _ _ _ aM;rw[m1,m2];omega
  by_cases dP:pk s at_=45
  ·have hc:=dP;have eA:eI true (pk s at_)=true:=by rw[hc];rfl
   rw[if_neg (by rw[eA];simp),hc] at hm;have bS:at_+1<=s.size:=zgP (by omega);cases aM:rd s k (zfL true) (at_+1) l1 with
   | none=>rw[aM] at hm;cases hm
   | some r1 =>
    rw[aM] at hm;cases r1 with
    | bad b =>
     cases hm
     go_wp2_with (first
    | (go_at_call 96;go_must (refine (zw hR hs ba).mono ?_);rintro e X ⟨rfl,q,rfl⟩)
    | (go_at_call 97;(first|refine (idx_a45 _).mono ?_|refine (idx_b45 _).mono ?_);rintro e X ⟨rfl,rfl⟩)
    | (go_at_call 86;go_must (refine (aL k (by omega) _ _ _ _ _ aM ((hR.drewN _).go (at_+1)) bS).mono ?_);rintro e Y ⟨v2,rfl,sY⟩))
     exact⟨rfl,v2,rfl,((qR (p:=⟨rb,1,none⟩) (zE hS _) (.inr rfl) _).trans sY)⟩
    | ok j b l2 =>
     simp only at hm;split at hm
     ·cases hm
     rename_i dD;have dD:l2.length<1000:=by omega
     go_wp2_with (first
    | (go_at_call 96;go_must (refine (zw hR hs ba).mono ?_);rintro e X ⟨rfl,q,rfl⟩)
    | (go_at_call 97;(first|refine (idx_a45 _).mono ?_|refine (idx_b45 _).mono ?_);rintro e X ⟨rfl,rfl⟩)
    | (go_at_call 98;go_must (refine (jU hY ⟨4,0,⟨#[]⟩,(i:Int),(j:Int)⟩ dD).mono ?_);rintro e Z ⟨v3,rfl,hZ,sZ⟩)
    | (go_at_call 86;go_must (refine (aL k (by omega) _ _ _ _ _ aM ((hR.drewN _).go (at_+1)) bS).mono ?_);rintro e Y ⟨v2,rfl,hY,hb,sY⟩))
     go_roundw
     case rel =>
      refine⟨k,l2.length,b,l2++[⟨4,0,⟨#[]⟩,(i:Int),(j:Int)⟩],v3,rfl,by omega,hm,hb,hZ,((qR (p:=⟨rb,1,none⟩) (zE hS _) (.inr rfl) _).trans sY).trans sZ⟩
     case measure =>
      have m1:=js hR;have m2:=js hZ;have:=zgM s k _ _ _ _ _ _ aM;rw[m1,m2];omega
  have bJ:eI true (pk s at_)=false:=by simp[eI,hc,dP]
  rw[if_pos bJ] at hm;cases hm;by_cases h0:pk s at_=0
  ·go_wp2_with (first
    | (go_at_call 96;go_must (refine (zw hR hs ba).mono ?_);rintro e X ⟨rfl,q,rfl⟩))
   go_ret;exact⟨v1,rfl,hR.drewN _,ba,zE hS _⟩
  ·have g1:¬((pk s at_:Nat):Int)=0:=by omega
   have g2:(((pk s at_:Nat):Int) == 0)=false:=by simpa using h0
   go_wp2_with (first
    | (go_at_call 96;go_must (refine (zw hR hs ba).mono ?_);rintro e X ⟨rfl,q,rfl⟩)
    | (go_at_call 97;go_must (refine (idx_true _ kx bJ _).mono ?_);rintro e X ⟨rfl,rfl⟩))
   go_ret;exact⟨v1,rfl,hR.drewN _,ba,zE hS _⟩
end Go.Proofs.TryzRead
end
section
namespace Go.Proofs.TryzRead
open Go Go.RowKit Ab
section
variable {rb n1:Nat} {s:ByteArray}
def zgO (hs:s.size<=1000) {f:Nat} (aL:∀k,k<=f->zfo rb n1 s 99 k .one):zfo rb n1 s 86 (f+1) (.row false):=by
 have mf:∀(fn:Fn) (first cap:Array Value) (w:World),(Instr.makeFunc fn first cap).run Tryz.prog w=.ok (.func fn first cap) w:=fun _ _ _ _=>rfl
 intro W a v l r hr h ha
 go_enter Tryz.func86,Tryz.ntmps86
 cases r with
 | bad b =>
  go_wp2_with (go_at_call 85;go_must (refine (zid hs aL _ _ _ _ _ hr h ha).mono ?_);rintro e Y ⟨v',rfl,sY⟩)
  exact⟨rfl,v',rfl,sY⟩
 | ok i b l' =>
  go_wp2_with (go_at_call 85;go_must (refine (zid hs aL _ _ _ _ _ hr h ha).mono ?_);rintro e Y ⟨v',rfl,hY,hb,sY⟩)
  go_ret;exact⟨v',rfl,hY,hb,sY⟩
def sum_calls (hs:s.size<=1000) {f:Nat} (aL:∀k,k<=f->zfo rb n1 s 86 k (.row false)):zfo rb n1 s 73 (f+1) (.row true):=by
 have mf:∀(fn:Fn) (first cap:Array Value) (w:World),(Instr.makeFunc fn first cap).run Tryz.prog w=.ok (.func fn first cap) w:=fun _ _ _ _=>rfl
 intro W a v l r hr h ha
 go_enter Tryz.func73,Tryz.ntmps73
 cases r with
 | bad b =>
  go_wp2_with (go_at_call 85;go_must (refine (su hs aL _ _ _ _ _ hr h ha).mono ?_);rintro e Y ⟨v',rfl,sY⟩)
  exact⟨rfl,v',rfl,sY⟩
 | ok i b l' =>
  go_wp2_with (go_at_call 85;go_must (refine (su hs aL _ _ _ _ _ hr h ha).mono ?_);rintro e Y ⟨v',rfl,hY,hb,sY⟩)
  go_ret;exact⟨v',rfl,hY,hb,sY⟩
def yn (hs:s.size<=1000):∀f,∀k,k<=f->zfo rb n1 s 99 k .one∧zfo rb n1 s 86 k (.row false)∧zfo rb n1 s 73 k (.row true)
 | 0,k,hk=>by
  obtain rfl:k=0:=by omega
  exact⟨fun W a v l r h=>(by cases h),fun W a v l r h=>(by cases h),fun W a v l r h=>(by cases h)⟩
 | f+1,k,hk=>by
  by_cases e:k<=f
  ·exact yn hs f k e
  ·obtain rfl:k=f+1:=by omega
   have ih:=yn hs f;exact⟨one_calls hs (ih f (le_refl _)).2.2,zgO hs fun k hk=>(ih k hk).1,sum_calls hs fun k hk=>(ih k hk).2.1⟩
end
def zcO (p q r:Addr) (w:World) :
  CallsD Tryz.prog 72 #[.pointer (some p),.pointer (some q),.pointer (some r)] .returning w fun e u' w'=>e=.returned (.tuple #[])∧u'=.returning∧w'=w:=by
 refine callsD_of_wpS Tryz.func72 rfl fun c₀ cs hu => ?_;apply wpS_seq;apply wpS_region;simp[wpOpsS,go_sem,recoverD,hu,Tryz.ntmps72,Exit.thenS];refine wpS_of_wp ?_
 go_wp2
 cases c₀;simp_all[bodyPostS,results,Tryz.results72]
def jJ {W:World} {ob:Nat} {v v':Value} {T:TypeId} (h:W.heap[ob]? = some (.cells #[v] T (0,0))):(W.setCell ⟨ob,0,none⟩ v').heap[ob]? = some (.cells #[v'] T (0,0)):=by simp only[World.setCell,Array.getElem?_modify,if_true,h,Option.map_some];rfl
def z7 {W:World} {ob k:Nat} (v':Value) (hk:k≠ob):(W.setCell ⟨ob,0,none⟩ v').heap[k]? = W.heap[k]?:=Below.heap_setCell _ _ _ k fun e=>hk e
def yj {O:Nat->Prop} {W X:World} (k:KeepO O W X) {b:Nat} (hb:O b) (v:Value):KeepO O W (X.setCell ⟨b,0,none⟩ v) :=
 ⟨k.os,k.tape,k.output,le_trans k.size (KeepsWalks.setCell X _ _).size,fun i hi hn=>(z7 v (fun e=>hn (by rw[e];exact hb))).trans (k.block i hi hn)⟩
def wa {O:Nat->Prop} {W X:World} (k:KeepO O W X) (o:Obj):KeepO O W (X.alloc o):=⟨k.os,k.tape,k.output,by have:=k.size;simp;omega,fun i hi hn=>(kG (Nat.lt_of_lt_of_le hi k.size)).trans (k.block i hi hn)⟩
def sP {O:Nat->Prop} {W X:World} (k:KeepO O W X) (n:Nat):KeepO O W (X.drewN n):=⟨k.os,k.tape,k.output,k.size,k.block⟩
def one_cell {W:World} {ob:Nat} {v:Value} {T:TypeId} (h:W.heap[ob]? = some (.cells #[v] T (0,0))):W.cell? ⟨ob,0,none⟩=some v:=by simp[World.cell?,h]
def zeW (B:Nat) (n:Int) (older:List PanicEntry) (w:World) (x:Value) (y:Int) (z:Value) (T1 T2 T3:TypeId) (hp:w.heap[B]? = some (.cells #[x] T1 (0,0))) (hq:w.heap[B+1]? = some (.cells #[.int .i64 y] T2 (0,0))) (hr:w.heap[B+2]? = some (.cells #[z] T3 (0,0))) :
  CallsD Tryz.prog 72 #[.pointer (some ⟨B,0,none⟩),.pointer (some ⟨B+1,0,none⟩),.pointer (some ⟨B+2,0,none⟩)] (.panicking ({ v:=.iface 124 (.agg #[.int .i64 n]),recovered:=false }::older)) w fun e u' w'=>e=.returned (.tuple #[])∧u'=.panicking ({ v:=.iface 124 (.agg #[.int .i64 n]),recovered:=true }::older) ∧
   KeepO (fun b=>b=B∨b=B+1∨b=B+2) w w'∧w'.cell? ⟨B,0,none⟩=some (.slice none 0 0)∧w'.cell? ⟨B+1,0,none⟩=some (.int .i64 n)∧w'.cell? ⟨B+2,0,none⟩=some (.iface 59 (.int .i64 2)):=by
 have one:∀ {W:World} {ob:Nat} {v:Value} {T:TypeId},W.heap[ob]? = some (.cells #[v] T (0,0))->W.cell? ⟨ob,0,none⟩=some v∧W.frozen? ⟨ob,0,none⟩=false:=fun h=>by simp[World.cell?,World.frozen?,h]
 obtain⟨p1,p2⟩:=one hp;obtain⟨q1,q2⟩:=one hq;obtain⟨r1,r2⟩:=one hr;have l1:=(Array.getElem?_eq_some_iff.1 hp).1;have l2:=(Array.getElem?_eq_some_iff.1 hq).1;have l3:=(Array.getElem?_eq_some_iff.1 hr).1;have m1:¬B=w.heap.size:=by omega
 have m2:¬B+1=w.heap.size:=by omega
 have m3:¬B+2=w.heap.size:=by omega
 refine callsD_of_wpS Tryz.func72 rfl fun c₀ cs hu => ?_;simp only[Tryz.ntmps72,List.size_toArray,List.length_cons,List.length_nil,Nat.reduceAdd,Nat.reduceSub,Array.replicate_succ,Array.replicate_zero,List.push_toArray,List.append_toArray,List.nil_append,List.cons_append];apply wpS_seq;apply wpS_region;simp[wpOpsS,go_sem,recoverD,hu,Exit.thenS];refine wpS_of_wp ?_;have hta:∀w,(Instr.typeAssert (.iface 124 (.agg #[.int .i64 n])) 20 124 true).run Tryz.prog w=.ok (.tuple #[.agg #[.int .i64 n],.bool true]) w:=fun w=>by kernel_rfl
 go_wp2
 go_region
 all_goals go_wp2
 all_goals
  refine⟨rfl,_,rfl,_,by simp[results,Tryz.results72],rfl,rfl,sP (wa (yj (yj (yj (.refl _ _) (.inl rfl) _) (.inr (.inl rfl)) _) (.inr (.inr rfl)) _) _) 1, ?_, ?_, ?_⟩
  ·exact one_cell (qI ((z7 _ (by omega)).trans ((z7 _ (by omega)).trans (jJ hp))))
  ·exact one_cell (qI ((z7 _ (by omega)).trans (jJ ((z7 _ (by omega)).trans hq))))
  ·exact one_cell (qI (jJ ((z7 _ (by omega)).trans ((z7 _ (by omega)).trans hr))))
end Go.Proofs.TryzRead
end
section
namespace Go.Proofs.TryzRead
open Go Go.RowKit Ab
def parse_long (s:ByteArray) (hs:100<s.size) (W:World):Calls Tryz.prog 57 #[.string s] W fun e W'=>e=.returned (.tuple #[.slice none 0 0,.int .i64 0,.iface 59 (.int .i64 4)])∧KeepO (fun _=>False) W W':=by
 have h1:(100:Int)<(s.size:Int):=by omega
 go_enter_defers Tryz.func57,Tryz.ntmps57
 go_wp2
 simp[bodyPostD,Leaves,settle,results,Tryz.results57,go_sem];exact wa (wa (wa (.refl _ _) _) _) _
def zjW {W:World} {base n:Nat} {v:Value} {l:List Ab.Node} (h:W.ownsRow base 131 5 v n (eH l)) (hn:n=l.length):q9 base W v l:=by
 subst hn;obtain⟨h0,⟨rfl,h1⟩|⟨g,cap,cur,rfl,h3,h4,h5,h6,h7,h8⟩⟩:=h
 ·exact .inl ⟨rfl,List.eq_nil_of_length_eq_zero h1⟩
 ·refine .inr ⟨g,cap,rfl,h3,(Array.getElem?_eq_some_iff.1 h4).1,h5,fun i x hx j u hu => ?_⟩;have hi:=(List.getElem?_eq_some_iff.1 hx).1;have hj:j<5:=by have:=(List.getElem?_eq_some_iff.1 hu).1;simpa[qO] using this
  have row:∀(l:List Ab.Node) (i:Nat),l[i]? = some x->(eH l)[i*5+j]? = some u:=by
   intro l
   induction l with
   | nil=>intro i h;simp at h
   | cons y r ih =>
    intro i h;have e:eH (y::r)=qO y++eH r:=by simp[eH]
    have ly:(qO y).length=5:=rfl;rw[e];cases i with
    | zero =>simp only[List.getElem?_cons_zero,Option.some.injEq] at h;subst h;rw[List.getElem?_append_left (by omega),Nat.zero_mul,Nat.zero_add];exact hu
    | succ i =>rw[List.getElem?_append_right (by omega),ly,show (i+1)*5+j-5=i*5+j by omega];exact ih i (by simpa using h)
  have h9:(cur.toList.take (l.length*5))[i*5+j]? = some u:=by rw[h8];exact row l i hx
  rw[List.getElem?_take_of_lt (by omega),Array.getElem?_toList] at h9;simp only[World.cell?,h4];exact h9
def own_slice {W:World} {base e size n:Nat} {v:Value} {xs:List Value} (h:W.ownsRow base e size v n xs):∃a m cap,v=.slice a m cap:=by
 obtain⟨_,⟨rfl,_⟩|⟨g,cap,cur,rfl,_⟩⟩:=h
 ·exact⟨_,_,_,rfl⟩
 ·exact⟨_,_,_,rfl⟩
def zgX {O:Nat->Prop} {n base:Nat} {Y Z:World} {v:Value} {l:List Ab.Node} (h:q9 base Y v l) (k:KeepO O Y Z) (hO:∀i,O i->i<base) (hn:n<=base):q9 n Z v l:=by
 rcases h with h|⟨b,cap,rfl,h1,h2,h3,h4⟩
 ·exact .inl h
 ·exact .inr ⟨b,cap,rfl,by omega,Nat.lt_of_lt_of_le h2 k.size,h3,fun i x hx j u hu=>by
   have e:=k.block b h2 (fun h=>by have:=hO b h;omega);have:=h4 i x hx j u hu;simp only[World.cell?,e] at this ⊢;exact this⟩
def three_set {Y:World} {B:Nat} {x y z:Value} {T1 T2 T3:TypeId} (hp:Y.heap[B]? = some (.cells #[x] T1 (0,0))) (hq:Y.heap[B+1]? = some (.cells #[y] T2 (0,0))) (hr:Y.heap[B+2]? = some (.cells #[z] T3 (0,0))) (vx vy vz:Value) :
  (Y.setCell ⟨B,0,none⟩ vx).cell? ⟨B,0,none⟩=some vx∧((((Y.setCell ⟨B,0,none⟩ vx).setCell ⟨B+1,0,none⟩ vy).setCell ⟨B+1+1,0,none⟩ vz).drew).cell? ⟨B,0,none⟩=some vx∧((((Y.setCell ⟨B,0,none⟩ vx).setCell ⟨B+1,0,none⟩ vy).setCell ⟨B+1+1,0,none⟩ vz).drew).cell? ⟨B+1,0,none⟩=some vy∧((((Y.setCell ⟨B,0,none⟩ vx).setCell ⟨B+1,0,none⟩ vy).setCell ⟨B+1+1,0,none⟩ vz).drew).cell? ⟨B+1+1,0,none⟩=some vz ∧
  KeepO (fun b=>b=B∨b=B+1∨b=B+2) Y ((((Y.setCell ⟨B,0,none⟩ vx).setCell ⟨B+1,0,none⟩ vy).setCell ⟨B+1+1,0,none⟩ vz).drew):=by
 refine⟨one_cell (jJ hp), ?_, ?_, ?_,sP (yj (yj (yj (.refl _ _) (.inl rfl) _) (.inr (.inl rfl)) _) (.inr (.inr rfl)) _) 1⟩
 ·exact one_cell ((z7 _ (by omega)).trans ((z7 _ (by omega)).trans (jJ hp)))
 ·exact one_cell ((z7 _ (by omega)).trans (jJ ((z7 _ (by omega)).trans hq)))
 ·exact one_cell (jJ ((z7 _ (by omega)).trans ((z7 _ (by omega)).trans hr)))
def yr {W W4 Y Z:World} {rb:Nat} {v v':Value} {O:Nat->Prop} (k4:KeepO (fun _=>False) W W4) (sY:Stp (some rb) v W4 Y v') (hk:KeepO O Y Z) (hO:∀i,O i->W.heap.size<=i) (hrb:W.heap.size<=rb) (hv:v.ownBlock=none):KeepO (fun _=>False) W Z :=
 ⟨hk.os.trans (sY.os.trans k4.os),hk.tape.trans (sY.tape.trans k4.tape),hk.output.trans (sY.output.trans k4.output),le_trans k4.size (le_trans sY.size hk.size),fun i hi _ =>
  (hk.block i (Nat.lt_of_lt_of_le hi (le_trans k4.size sY.size)) (fun h=>by have:=hO i h;omega)).trans ((sY.block i (Nat.lt_of_lt_of_le hi k4.size) (fun e=>by have:=Option.some.inj e;omega) (fun e=>by rw[hv] at e;cases e)).trans (k4.block i hi (fun e=>e)))⟩
def wU (W:World) (X1 X2 X3 X4:Obj):KeepO (fun _=>False) W ((((W.alloc X1).alloc X2).alloc X3).alloc X4):=wa (wa (wa (wa (.refl _ _) _) _) _) _
def nm (W:World) (X1 X2 X3 X4:Obj):((((W.alloc X1).alloc X2).alloc X3).alloc X4).heap[W.heap.size]? = some X1∧((((W.alloc X1).alloc X2).alloc X3).alloc X4).heap[W.heap.size+1]? = some X2∧((((W.alloc X1).alloc X2).alloc X3).alloc X4).heap[W.heap.size+2]? = some X3∧((((W.alloc X1).alloc X2).alloc X3).alloc X4).heap[W.heap.size+3]? = some X4:=by have h1:=World.alloc_heap_new W X1;have h2:=World.alloc_heap_new (W.alloc X1) X2;have h3:=World.alloc_heap_new ((W.alloc X1).alloc X2) X3;have h4:=World.alloc_heap_new (((W.alloc X1).alloc X2).alloc X3) X4;refine⟨qI (qI (qI h1)),qI (qI (by simpa using h2)),qI (by simpa using h3),by simpa using h4⟩
def sW {Y:World} {B:Nat} {x y z:Value} {T1 T2 T3:TypeId} (hp:Y.heap[B]? = some (.cells #[x] T1 (0,0))) (hq:Y.heap[B+1]? = some (.cells #[y] T2 (0,0))) (hr:Y.heap[B+2]? = some (.cells #[z] T3 (0,0))) (vx vy vz:Value) :
  (Y.setCell ⟨B,0,none⟩ vx).cell? ⟨B,0,none⟩=some vx∧((Y.setCell ⟨B,0,none⟩ vx).setCell ⟨B+1,0,none⟩ vy).cell? ⟨B+1,0,none⟩=some vy∧(((Y.setCell ⟨B,0,none⟩ vx).setCell ⟨B+1,0,none⟩ vy).setCell ⟨B+1+1,0,none⟩ vz).cell? ⟨B+1+1,0,none⟩=some vz ∧
  KeepO (fun b=>b=B∨b=B+1∨b=B+2) Y (((Y.setCell ⟨B,0,none⟩ vx).setCell ⟨B+1,0,none⟩ vy).setCell ⟨B+1+1,0,none⟩ vz) :=
 ⟨one_cell (jJ hp),one_cell (jJ ((z7 _ (by omega)).trans hq)),one_cell (jJ ((z7 _ (by omega)).trans ((z7 _ (by omega)).trans hr))),yj (yj (yj (.refl _ _) (.inl rfl) _) (.inr (.inl rfl)) _) (.inr (.inr rfl)) _⟩
def parse_bad (s:ByteArray) (hs:s.size<=100) (f b:Nat) (hr:rd s f (.row true) 0 []=some (.bad b)) (W:World):Calls Tryz.prog 57 #[.string s] W fun e W'=>e=.returned (.tuple #[.slice none 0 0,.int .i64 b,.iface 59 (.int .i64 2)])∧KeepO (fun _=>False) W W':=by
 have h1:¬(100:Int)<(s.size:Int):=by omega
 have mf:∀(fn:Fn) (first cap:Array Value) (w:World),(Instr.makeFunc fn first cap).run Tryz.prog w=.ok (.func fn first cap) w:=fun _ _ _ _=>rfl
 have hR:RD (W.heap.size+3) (W.heap.size+4) s ((((W.alloc (.cells #[.slice none 0 0] 97)).alloc (.cells #[.int .i64 0] 3)).alloc (.cells #[.nilIface] 36)).alloc (.cells #[.string s,.int .i64 (0:Nat),.slice none 0 0] 127)) 0 (.slice none 0 0) []:=(by refine⟨?_,⟨rfl,.inl ⟨rfl,rfl⟩⟩,by omega,by simp⟩;have h:=World.alloc_heap_new (((W.alloc (.cells #[.slice none 0 0] 97)).alloc (.cells #[.int .i64 0] 3)).alloc (.cells #[.nilIface] 36)) (.cells #[.string s,.int .i64 (0:Nat),.slice none 0 0] 127);simpa using h);have hc:=(yn (rb:=W.heap.size+3) (n1:=W.heap.size+4) (s:=s) (by omega) f f (le_refl _)).2.2 _ _ _ _ _ hr hR (zero_le _)
 go_enter_defers Tryz.func57,Tryz.ntmps57
 go_wp2_with (go_at_call 73;go_must (refine hc.mono ?_);rintro e Y ⟨v',rfl,sY⟩)
 obtain⟨n1,n2,n3,_⟩:=nm W (.cells #[.slice none 0 0] 97) (.cells #[.int .i64 0] 3) (.cells #[.nilIface] 36) (.cells #[.string s,.int .i64 (0:Nat),.slice none 0 0] 127);have old:∀ {k:Nat} {O:Obj},k<W.heap.size+3->((((W.alloc (.cells #[.slice none 0 0] 97)).alloc (.cells #[.int .i64 0] 3)).alloc (.cells #[.nilIface] 36)).alloc (.cells #[.string s,.int .i64 (0:Nat),.slice none 0 0] 127)).heap[k]? = some O->Y.heap[k]? = some O:=fun {k O} hk h =>
  (sY.block k (by simp;omega) (fun e=>by have:=Option.some.inj e;omega) (fun e=>by cases e)).trans h
 refine leaves_cons (f:=72) (args:=#[.pointer (some ⟨W.heap.size,0,none⟩),.pointer (some ⟨W.heap.size+1,0,none⟩),.pointer (some ⟨W.heap.size+2,0,none⟩)]) (by simp) (by simp[go_sem]) ?_;refine (zeW W.heap.size b [] Y _ _ _ _ _ _ (old (by omega) n1) (old (by omega) n2) (old (by omega) n3)).mono ?_;rintro e u' oI ⟨rfl,rfl,hk,k1,k2,k3⟩;simp[Leaves,settle,results,Tryz.results57,go_sem,k1,k2,k3];exact yr (wU _ _ _ _ _) sY hk (fun i h=>by omega) (by omega) rfl
def parse_short (s:ByteArray) (hs:s.size<=100) (f i b:Nat) (l:List Ab.Node) (hr:rd s f (.row true) 0 []=some (.ok i b l)) (aj:b<s.size) (W:World):Calls Tryz.prog 57 #[.string s] W fun e W'=>e=.returned (.tuple #[.slice none 0 0,.int .i64 b,.iface 59 (.int .i64 2)])∧KeepO (fun _=>False) W W':=by
 have h2:(b:Int)<(s.size:Int):=by omega
 have h1:¬(100:Int)<(s.size:Int):=by omega
 have mf:∀(fn:Fn) (first cap:Array Value) (w:World),(Instr.makeFunc fn first cap).run Tryz.prog w=.ok (.func fn first cap) w:=fun _ _ _ _=>rfl
 have hR:RD (W.heap.size+3) (W.heap.size+4) s ((((W.alloc (.cells #[.slice none 0 0] 97)).alloc (.cells #[.int .i64 0] 3)).alloc (.cells #[.nilIface] 36)).alloc (.cells #[.string s,.int .i64 (0:Nat),.slice none 0 0] 127)) 0 (.slice none 0 0) []:=(by refine⟨?_,⟨rfl,.inl ⟨rfl,rfl⟩⟩,by omega,by simp⟩;have h:=World.alloc_heap_new (((W.alloc (.cells #[.slice none 0 0] 97)).alloc (.cells #[.int .i64 0] 3)).alloc (.cells #[.nilIface] 36)) (.cells #[.string s,.int .i64 (0:Nat),.slice none 0 0] 127);simpa using h);have hc:=(yn (rb:=W.heap.size+3) (n1:=W.heap.size+4) (s:=s) (by omega) f f (le_refl _)).2.2 _ _ _ _ _ hr hR (zero_le _);obtain⟨n1,n2,n3,_⟩:=nm W (.cells #[.slice none 0 0] 97) (.cells #[.int .i64 0] 3) (.cells #[.nilIface] 36) (.cells #[.string s,.int .i64 (0:Nat),.slice none 0 0] 127)
 have old:∀ {Y:World} {v':Value},Stp (some (W.heap.size+3)) (.slice none 0 0) ((((W.alloc (.cells #[.slice none 0 0] 97)).alloc (.cells #[.int .i64 0] 3)).alloc (.cells #[.nilIface] 36)).alloc (.cells #[.string s,.int .i64 (0:Nat),.slice none 0 0] 127)) Y v' ->
   Y.heap[W.heap.size]? = some (.cells #[.slice none 0 0] 97 (0,0))∧Y.heap[W.heap.size+1]? = some (.cells #[.int .i64 0] 3 (0,0))∧Y.heap[W.heap.size+2]? = some (.cells #[.nilIface] 36 (0,0)):=fun {Y v'} sY=>by
  have go:∀ {k:Nat} {O:Obj},k<W.heap.size+3->((((W.alloc (.cells #[.slice none 0 0] 97)).alloc (.cells #[.int .i64 0] 3)).alloc (.cells #[.nilIface] 36)).alloc (.cells #[.string s,.int .i64 (0:Nat),.slice none 0 0] 127)).heap[k]? = some O->Y.heap[k]? = some O:=fun {k O} hk h =>
   (sY.block k (by simp;omega) (fun e=>by have:=Option.some.inj e;omega) (fun e=>by cases e)).trans h
  exact⟨go (by omega) n1,go (by omega) n2,go (by omega) n3⟩
 have fz:∀ {W:World} {ob:Nat} {c:Array Value} {T:TypeId},W.heap[ob]? = some (.cells c T (0,0))->W.frozen? ⟨ob,0,none⟩=false:=fun h=>by simp[World.frozen?,h]
 go_enter_defers Tryz.func57,Tryz.ntmps57
 go_wp2_with (go_at_call 73;go_must (refine hc.mono ?_);rintro e Y ⟨v',rfl,hY,hb,sY⟩;have y1:=hY.c1;have y2:=hY.c2;have o:=old sY;have o1:=one_cell o.1;have o2:=one_cell o.2.1;have o3:=one_cell o.2.2;have z1:=fz o.1;have z2:=fz o.2.1;have z3:=fz o.2.2)
 go_region
 all_goals go_wp2
 all_goals
  refine leaves_cons (f:=72) (args:=#[.pointer (some ⟨W.heap.size,0,none⟩),.pointer (some ⟨W.heap.size+1,0,none⟩),.pointer (some ⟨W.heap.size+2,0,none⟩)]) (by simp) (by simp[go_sem]) ?_;refine (zcO _ _ _ _).mono ?_;rintro e u' oI ⟨rfl,rfl,rfl⟩;obtain⟨q0,q1,q2,q3,qk⟩:=three_set o.1 o.2.1 o.2.2 (.slice none 0 0) (.int .i64 b) (.iface 59 (.int .i64 2));simp[Leaves,settle,results,Tryz.results57,go_sem,q0,q1,q2,q3];exact yr (wU _ _ _ _ _) sY qk (fun i h=>by omega) (by omega) rfl
def zey {O:Nat->Prop} {a b:World} (h:KeepO (fun _=>False) a b):KeepO O a b:=⟨h.os,h.tape,h.output,h.size,fun k hk _=>h.block k hk fun e=>e⟩
def parse_check (s:ByteArray) (hs:s.size<=100) (f i b:Nat) (l:List Ab.Node) (hr:rd s f (.row true) 0 []=some (.ok i b l)) (aj:s.size<=b) (W:World) (R:Value->Prop) (hR2:∀u,R u->∃T x,u=.iface T x)
  (bd:∀(v:Value) (X:World),KeepO (fun _=>False) W X->q9 W.heap.size X v l->Calls Tryz.prog 74 #[v] X fun e w'=>∃u,e=.returned u∧R u∧KeepO (fun _=>False) X w') :
  Calls Tryz.prog 57 #[.string s] W fun e W'=>∃u,e=.returned (.tuple #[.slice none 0 0,.int .i64 0,u])∧R u∧KeepO (fun _=>False) W W':=by
 have h2:¬(b:Int)<(s.size:Int):=by omega
 have h1:¬(100:Int)<(s.size:Int):=by omega
 have mf:∀(fn:Fn) (first cap:Array Value) (w:World),(Instr.makeFunc fn first cap).run Tryz.prog w=.ok (.func fn first cap) w:=fun _ _ _ _=>rfl
 have hR:RD (W.heap.size+3) (W.heap.size+4) s ((((W.alloc (.cells #[.slice none 0 0] 97)).alloc (.cells #[.int .i64 0] 3)).alloc (.cells #[.nilIface] 36)).alloc (.cells #[.string s,.int .i64 (0:Nat),.slice none 0 0] 127)) 0 (.slice none 0 0) []:=(by refine⟨?_,⟨rfl,.inl ⟨rfl,rfl⟩⟩,by omega,by simp⟩;have h:=World.alloc_heap_new (((W.alloc (.cells #[.slice none 0 0] 97)).alloc (.cells #[.int .i64 0] 3)).alloc (.cells #[.nilIface] 36)) (.cells #[.string s,.int .i64 (0:Nat),.slice none 0 0] 127);simpa using h);have hc:=(yn (rb:=W.heap.size+3) (n1:=W.heap.size+4) (s:=s) (by omega) f f (le_refl _)).2.2 _ _ _ _ _ hr hR (zero_le _);obtain⟨n1,n2,n3,_⟩:=nm W (.cells #[.slice none 0 0] 97) (.cells #[.int .i64 0] 3) (.cells #[.nilIface] 36) (.cells #[.string s,.int .i64 (0:Nat),.slice none 0 0] 127)
 have old:∀ {Y:World} {v':Value},Stp (some (W.heap.size+3)) (.slice none 0 0) ((((W.alloc (.cells #[.slice none 0 0] 97)).alloc (.cells #[.int .i64 0] 3)).alloc (.cells #[.nilIface] 36)).alloc (.cells #[.string s,.int .i64 (0:Nat),.slice none 0 0] 127)) Y v' ->
   Y.heap[W.heap.size]? = some (.cells #[.slice none 0 0] 97 (0,0))∧Y.heap[W.heap.size+1]? = some (.cells #[.int .i64 0] 3 (0,0))∧Y.heap[W.heap.size+2]? = some (.cells #[.nilIface] 36 (0,0)):=fun {Y v'} sY=>by
  have go:∀ {k:Nat} {O:Obj},k<W.heap.size+3->((((W.alloc (.cells #[.slice none 0 0] 97)).alloc (.cells #[.int .i64 0] 3)).alloc (.cells #[.nilIface] 36)).alloc (.cells #[.string s,.int .i64 (0:Nat),.slice none 0 0] 127)).heap[k]? = some O->Y.heap[k]? = some O:=fun {k O} hk h =>
   (sY.block k (by simp;omega) (fun e=>by have:=Option.some.inj e;omega) (fun e=>by cases e)).trans h
  exact⟨go (by omega) n1,go (by omega) n2,go (by omega) n3⟩
 have fz:∀ {W:World} {ob:Nat} {c:Array Value} {T:TypeId},W.heap[ob]? = some (.cells c T (0,0))->W.frozen? ⟨ob,0,none⟩=false:=fun h=>by simp[World.frozen?,h]
 go_enter_defers Tryz.func57,Tryz.ntmps57
 go_wp2_with (first
  | (go_at_call 73;go_must (refine hc.mono ?_);rintro e Y ⟨v',rfl,hY,hb,sY⟩;have y1:=hY.c1;have y2:=hY.c2;have o:=old sY;have o1:=one_cell o.1;have o2:=one_cell o.2.1;have o3:=one_cell o.2.2;have z1:=fz o.1;have z2:=fz o.2.1;have z3:=fz o.2.2)
  | (go_at_call 74;go_must (refine (bd _ _ (yr (wU _ _ _ _ _) sY (.refl (fun _=>False) _) (fun i h=>h.elim) (by omega) rfl) (zgX (zjW hY.row rfl) (.refl (fun _=>False) _) (fun i h=>h.elim) (by omega))).mono ?_);rintro e X ⟨u,rfl,hu,kX⟩;obtain⟨T,x,rfl⟩:=hR2 u hu;have p1:=qV kX o1;have p2:=qV kX o2;have p3:=qV kX o3;have f1:=fz ((kX.block _ (Array.getElem?_eq_some_iff.1 o.1).1 (fun e=>e)).trans o.1);have f2:=fz ((kX.block _ (Array.getElem?_eq_some_iff.1 o.2.1).1 (fun e=>e)).trans o.2.1);have f3:=fz ((kX.block _ (Array.getElem?_eq_some_iff.1 o.2.2).1 (fun e=>e)).trans o.2.2)))
 refine leaves_cons (f:=72) (args:=#[.pointer (some ⟨W.heap.size,0,none⟩),.pointer (some ⟨W.heap.size+1,0,none⟩),.pointer (some ⟨W.heap.size+2,0,none⟩)]) (by simp) (by simp[go_sem]) ?_;refine (zcO _ _ _ _).mono ?_;rintro e u' oI ⟨rfl,rfl,rfl⟩;have g1:=(kX.block _ (Array.getElem?_eq_some_iff.1 o.1).1 (fun e=>e)).trans o.1;have g2:=(kX.block _ (Array.getElem?_eq_some_iff.1 o.2.1).1 (fun e=>e)).trans o.2.1;have g3:=(kX.block _ (Array.getElem?_eq_some_iff.1 o.2.2).1 (fun e=>e)).trans o.2.2;obtain⟨q1,q2,q3,qk⟩:=sW g1 g2 g3 (.slice none 0 0) (.int .i64 0) (.iface T x);simp[Leaves,settle,results,Tryz.results57,go_sem,q1,q2,q3];exact⟨hu,yr (wU _ _ _ _ _) sY ((zey kX).trans qk) (fun i h=>by omega) (by omega) rfl⟩
def parse_done (s:ByteArray) (hs:s.size<=100) (f i b:Nat) (l:List Ab.Node) (hr:rd s f (.row true) 0 []=some (.ok i b l)) (aj:s.size<=b) (W:World)
  (bd:∀(v:Value) (X:World),KeepO (fun _=>False) W X->q9 W.heap.size X v l->Calls Tryz.prog 74 #[v] X fun e w'=>e=.returned .nilIface∧KeepO (fun _=>False) X w') :
  Calls Tryz.prog 57 #[.string s] W fun e W'=>∃v',e=.returned (.tuple #[v',.int .i64 0,.nilIface])∧q9 W.heap.size W' v' l∧KeepO (fun _=>False) W W':=by
 have h2:¬(b:Int)<(s.size:Int):=by omega
 have h1:¬(100:Int)<(s.size:Int):=by omega
 have mf:∀(fn:Fn) (first cap:Array Value) (w:World),(Instr.makeFunc fn first cap).run Tryz.prog w=.ok (.func fn first cap) w:=fun _ _ _ _=>rfl
 have hR:RD (W.heap.size+3) (W.heap.size+4) s ((((W.alloc (.cells #[.slice none 0 0] 97)).alloc (.cells #[.int .i64 0] 3)).alloc (.cells #[.nilIface] 36)).alloc (.cells #[.string s,.int .i64 (0:Nat),.slice none 0 0] 127)) 0 (.slice none 0 0) []:=(by refine⟨?_,⟨rfl,.inl ⟨rfl,rfl⟩⟩,by omega,by simp⟩;have h:=World.alloc_heap_new (((W.alloc (.cells #[.slice none 0 0] 97)).alloc (.cells #[.int .i64 0] 3)).alloc (.cells #[.nilIface] 36)) (.cells #[.string s,.int .i64 (0:Nat),.slice none 0 0] 127);simpa using h);have hc:=(yn (rb:=W.heap.size+3) (n1:=W.heap.size+4) (s:=s) (by omega) f f (le_refl _)).2.2 _ _ _ _ _ hr hR (zero_le _);obtain⟨n1,n2,n3,_⟩:=nm W (.cells #[.slice none 0 0] 97) (.cells #[.int .i64 0] 3) (.cells #[.nilIface] 36) (.cells #[.string s,.int .i64 (0:Nat),.slice none 0 0] 127)
 have old:∀ {Y:World} {v':Value},Stp (some (W.heap.size+3)) (.slice none 0 0) ((((W.alloc (.cells #[.slice none 0 0] 97)).alloc (.cells #[.int .i64 0] 3)).alloc (.cells #[.nilIface] 36)).alloc (.cells #[.string s,.int .i64 (0:Nat),.slice none 0 0] 127)) Y v' ->
   Y.heap[W.heap.size]? = some (.cells #[.slice none 0 0] 97 (0,0))∧Y.heap[W.heap.size+1]? = some (.cells #[.int .i64 0] 3 (0,0))∧Y.heap[W.heap.size+2]? = some (.cells #[.nilIface] 36 (0,0)):=fun {Y v'} sY=>by
  have go:∀ {k:Nat} {O:Obj},k<W.heap.size+3->((((W.alloc (.cells #[.slice none 0 0] 97)).alloc (.cells #[.int .i64 0] 3)).alloc (.cells #[.nilIface] 36)).alloc (.cells #[.string s,.int .i64 (0:Nat),.slice none 0 0] 127)).heap[k]? = some O->Y.heap[k]? = some O:=fun {k O} hk h =>
   (sY.block k (by simp;omega) (fun e=>by have:=Option.some.inj e;omega) (fun e=>by cases e)).trans h
  exact⟨go (by omega) n1,go (by omega) n2,go (by omega) n3⟩
 have fz:∀ {W:World} {ob:Nat} {c:Array Value} {T:TypeId},W.heap[ob]? = some (.cells c T (0,0))->W.frozen? ⟨ob,0,none⟩=false:=fun h=>by simp[World.frozen?,h]
 go_enter_defers Tryz.func57,Tryz.ntmps57
 go_wp2_with (first
  | (go_at_call 73;go_must (refine hc.mono ?_);rintro e Y ⟨v',rfl,hY,hb,sY⟩;obtain⟨va,vm,vc,rfl⟩:=own_slice hY.row;have y1:=hY.c1;have y2:=hY.c2;have o:=old sY;have o1:=one_cell o.1;have o2:=one_cell o.2.1;have o3:=one_cell o.2.2;have z1:=fz o.1;have z2:=fz o.2.1;have z3:=fz o.2.2)
  | (go_at_call 74;go_must (refine (bd _ _ (yr (wU _ _ _ _ _) sY (.refl (fun _=>False) _) (fun i h=>h.elim) (by omega) rfl) (zgX (zjW hY.row rfl) (.refl (fun _=>False) _) (fun i h=>h.elim) (by omega))).mono ?_);rintro e X ⟨rfl,kX⟩;have r3:=qV kX hY.c2;have y3:=hY.c2;have p1:=qV kX o1;have p2:=qV kX o2;have p3:=qV kX o3;have f1:=fz ((kX.block _ (Array.getElem?_eq_some_iff.1 o.1).1 (fun e=>e)).trans o.1);have f2:=fz ((kX.block _ (Array.getElem?_eq_some_iff.1 o.2.1).1 (fun e=>e)).trans o.2.1);have f3:=fz ((kX.block _ (Array.getElem?_eq_some_iff.1 o.2.2).1 (fun e=>e)).trans o.2.2)))
 refine leaves_cons (f:=72) (args:=#[.pointer (some ⟨W.heap.size,0,none⟩),.pointer (some ⟨W.heap.size+1,0,none⟩),.pointer (some ⟨W.heap.size+2,0,none⟩)]) (by simp) (by simp[go_sem]) ?_;refine (zcO _ _ _ _).mono ?_;rintro e u' oI ⟨rfl,rfl,rfl⟩;have g1:=(kX.block _ (Array.getElem?_eq_some_iff.1 o.1).1 (fun e=>e)).trans o.1;have g2:=(kX.block _ (Array.getElem?_eq_some_iff.1 o.2.1).1 (fun e=>e)).trans o.2.1;have g3:=(kX.block _ (Array.getElem?_eq_some_iff.1 o.2.2).1 (fun e=>e)).trans o.2.2;obtain⟨q1,q2,q3,qk⟩:=sW g1 g2 g3 (.slice va vm vc) (.int .i64 0) .nilIface;simp[Leaves,settle,results,Tryz.results57,go_sem,q1,q2,q3];exact⟨zgX (zjW hY.row rfl) ((zey kX).trans qk) (fun i h=>by omega) (by omega),yr (wU _ _ _ _ _) sY ((zey kX).trans qk) (fun i h=>by omega) (by omega) rfl⟩
end Go.Proofs.TryzRead
end
