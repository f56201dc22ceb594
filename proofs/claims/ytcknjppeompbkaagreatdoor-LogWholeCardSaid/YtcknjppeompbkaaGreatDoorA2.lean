import Derived.Test.YtcknjppeompbkaaGreatDoorA1
import Derived.Laws.Tables
import Derived.Great.BuildSlice
import Derived.Deep.DeepAppendWide
open Nat (mod_lt)
set_option linter.all false
namespace Ab
section
open Go Go.RowKit
section
variable {S:Seat} {A0:Nat->Prop} {O:Hnd} {w0:World} {A:Nat->Prop} {σ:Nat->Option Nat} {w:World} {st aa:ASt} {tm:Array Value} {df:List Deferred} {o:Oper} {v:AV} {d:Nat}
def zfP {x:Operand} (h:zfQ x=true):x=.const .nilIface:=by
 unfold zfQ at h;split at h
 ·rfl
 ·cases h
def zgV {P:Program} {t:TypeId} {ms:Array (String×TypeId)} (hu:P.underlying t=some (.interface ms)) (w:World) :
  (Op.equal t .nilIface .nilIface).run P w=.ok true w∧(∀ T v,(Op.equal t (.iface T v) .nilIface).run P w=.ok false w)∧(∀ T v,(Op.equal t .nilIface (.iface T v)).run P w=.ok false w):=by
 have e1:∀ dd,(Op.equalIn (dd+1) t .nilIface .nilIface).run P w=.ok true w:=fun dd=>by simp[Op.equalIn,run_underlying hu]
 have e2:∀ dd T v,(Op.equalIn (dd+1) t (.iface T v) .nilIface).run P w=.ok false w:=fun dd T v=>by simp[Op.equalIn,run_underlying hu]
 have e3:∀ dd T v,(Op.equalIn (dd+1) t .nilIface (.iface T v)).run P w=.ok false w:=fun dd T v=>by simp[Op.equalIn,run_underlying hu]
 exact ⟨e1 9999,e2 9999,e3 9999⟩
def zeA (h:SRel S A0 O w0 A σ w st tm) {neg:Bool} {t u:TypeId} {ms:Array (String×TypeId)} {x y z:Operand} {z':AOpd} (ho:o.op=.binOp (if neg then .neq else .eql) t x y u) (hu:S.P.underlying t=some (.interface ms))
  (hz:(z=x∧zfQ y=true)∨(z=y∧zfQ x=true)) (h1:qr S z=some z') (ha:aop (.eqn false neg z') d st=some (v,aa)):yS S A0 O w0 w tm df o v aa:=by
 have g1:=h.ev (df:=df) h1;obtain ⟨k1,k2,k3⟩:=zgV hu w
 have key:∀ b:Bool,((Act.eval ⟨tm,df⟩ z=.nilIface∧b=true)∨((∃ T v,Act.eval ⟨tm,df⟩ z=.iface T v)∧b=false)) ->
   (execOp (Act.eval ⟨tm,df⟩) o).run S.P w=.ok (.value (.bool (if neg then !b else b))) w:=by
  intro b hb;have ek:Act.eval ⟨tm,df⟩ (.const .nilIface)=.nilIface:=rfl;rcases hz with ⟨rfl,hy⟩ | ⟨rfl,hx⟩
  ·obtain rfl:=zfP hy;rcases hb with ⟨hb,rfl⟩ | ⟨⟨T,v,hb⟩,rfl⟩
   ·cases neg<;>simp[execOp,ho,hb,ek,eqGuard_nil_constR,binOp,k1]
   ·cases neg<;>simp[execOp,ho,hb,ek,eqGuard_at_iface,binOp,k2]
  ·obtain rfl:=zfP hx;rcases hb with ⟨hb,rfl⟩ | ⟨⟨T,v,hb⟩,rfl⟩
   ·cases neg<;>simp[execOp,ho,hb,ek,eqGuard_nil_constL,binOp,k1]
   ·cases neg<;>simp[execOp,ho,hb,ek,eqGuard_nil_iface,binOp,k3]
 simp only[aop,Am,if_false] at ha;split at ha
 ·rename_i he;rw[he] at g1;simp only[Option.some.injEq,Prod.mk.injEq] at ha;obtain ⟨rfl,rfl⟩:=ha;exact .same h (rv:=.bool (!neg)) (by rw[key true (.inl ⟨g1.rel.v_inv,rfl⟩)];cases neg<;>rfl) (zdG _)
 ·rename_i k x1 he;rw[he] at g1;obtain ⟨T,v',e,_⟩:=g1.rel.ifc_inv;simp only[Option.some.injEq,Prod.mk.injEq] at ha;obtain ⟨rfl,rfl⟩:=ha;exact .same h (rv:=.bool neg) (by rw[key false (.inr ⟨⟨T,v',e⟩,rfl⟩)];cases neg<;>rfl) (zdG _)
 ·rename_i k x1 he;rw[he] at g1;simp only[Option.some.injEq,Prod.mk.injEq] at ha;obtain ⟨rfl,rfl⟩:=ha;exact .same h (rv:=.bool neg) (by rw[key false (.inr ⟨⟨_,_,g1.rel.v_inv⟩,rfl⟩)];cases neg<;>rfl) (zdG _)
 ·cases ha
def op_eqnS (h:SRel S A0 O w0 A σ w st tm) {neg:Bool} {t u e:TypeId} {x:Operand} {x':AOpd} (ho:o.op=.binOp (if neg then .neq else .eql) t x (.const (.slice none 0 0)) u) (hu:S.P.underlying t=some (.slice e))
  (h1:qr S x=some x') (ha:aop (.eqn true neg x') d st=some (v,aa)):yS S A0 O w0 w tm df o v aa:=by
 have g1:=h.ev (df:=df) h1;have k:∀ b n c,(Op.equal t (.slice b n c) (.slice none 0 0)).run S.P w=.ok b.isNone w:=by
  intro b n c;have e1:∀ dd,(Op.equalIn (dd+1) t (.slice b n c) (.slice none 0 0)).run S.P w=.ok b.isNone w:=fun dd=>by cases b<;>simp[Op.equalIn,run_underlying hu]
  exact e1 9999
 have key:∀ b n c,Act.eval ⟨tm,df⟩ x=.slice b n c->(execOp (Act.eval ⟨tm,df⟩) o).run S.P w=.ok (.value (.bool (if neg then !b.isNone else b.isNone))) w:=(by intro b n c hb;have e2:Act.eval ⟨tm,df⟩ (.const (.slice none 0 0))=.slice none 0 0:=rfl;cases neg<;>simp[execOp,ho,hb,e2,eqGuard_at_slice,binOp,k])
 simp only[aop,if_true] at ha;split at ha
 ·rename_i he;rw[he] at g1;simp only[Option.some.injEq,Prod.mk.injEq] at ha;obtain ⟨rfl,rfl⟩:=ha;exact .same h (rv:=.bool (!neg)) (by rw[key _ _ _ g1.rel.v_inv];cases neg<;>rfl) (zdG _)
 ·rename_i a l c he;rw[he] at g1;simp only[Option.some.injEq,Prod.mk.injEq] at ha;obtain ⟨rfl,rfl⟩:=ha;exact .same h (rv:=.bool neg) (by rw[key _ _ _ g1.rel.v_inv];cases neg<;>rfl) (zdG _)
 ·rename_i z e1 es he;rw[he] at g1;simp only[Option.some.injEq,Prod.mk.injEq] at ha;obtain ⟨rfl,rfl⟩:=ha;rcases g1.rel.sl_inv with ⟨hf,_⟩ | ⟨b,o',cap,u,e1,_⟩ | ⟨hf,_⟩
  ·cases hf
  ·exact .same h (rv:=.bool neg) (by rw[key _ _ _ e1];cases neg<;>rfl) (zdG _)
  ·cases hf
 ·cases ha
def scTy (P:Program) (t:TypeId):Sc->Prop
 | .int=>∃ k,P.underlying t=some (.int k)
 | .bool=>P.underlying t=some .bool
 | .str=>P.underlying t=some .string
def scEq_int {x y:AV} {r:Bool} (h:zjm .int x y=some r):∃ k a b,x=.v (.int k a)∧y=.v (.int k b)∧r=decide (a=b):=by
 unfold zjm at h;split at h
 ·rename_i k a k' b _;split at h
  ·rename_i hk;subst hk;cases h;exact ⟨_,_,_,rfl,rfl,rfl⟩
  ·cases h
 ·rename_i hh;cases hh
 ·rename_i hh;cases hh
 ·cases h
def scEq_bool {x y:AV} {r:Bool} (h:zjm .bool x y=some r):∃ a b,x=.v (.bool a)∧y=.v (.bool b)∧r=decide (a=b):=by
 unfold zjm at h;split at h
 ·rename_i hh;cases hh
 ·cases h;exact ⟨_,_,rfl,rfl,rfl⟩
 ·rename_i hh;cases hh
 ·cases h
def scEq_str {x y:AV} {r:Bool} (h:zjm .str x y=some r):∃ a b,x=.v (.string a)∧y=.v (.string b)∧r=decide (a=b):=by
 unfold zjm at h;split at h
 ·rename_i hh;cases hh
 ·rename_i hh;cases hh
 ·cases h;exact ⟨_,_,rfl,rfl,rfl⟩
 ·cases h
def scEq_run {P:Program} {s:Sc} {t:TypeId} {x y:AV} {a b:Value} {r:Bool} (h:zjm s x y=some r) (ha:VR S A σ w x a) (hb:VR S A σ w y b) (ht:scTy P t s) (dd:Nat) (w1:World) :
  (Op.equalIn (dd+1) t a b).run P w1=.ok r w1:=by
 cases s with
 | int =>obtain ⟨k,n,m,rfl,rfl,rfl⟩:=scEq_int h;obtain ⟨k',ht⟩:=ht;rw[ha.v_inv,hb.v_inv,run_equalIn_int w1 dd t _ k' _ _ ht];by_cases he:n=m<;>simp[he]
 | bool =>obtain ⟨n,m,rfl,rfl,rfl⟩:=scEq_bool h;rw[ha.v_inv,hb.v_inv,run_equalIn_bool' w1 dd t _ _ ht];cases n<;>cases m<;>rfl
 | str =>obtain ⟨n,m,rfl,rfl,rfl⟩:=scEq_str h;rw[ha.v_inv,hb.v_inv,run_equalIn_string w1 dd t _ _ ht,zir]
def n5 {P:Program} {cs ds:List AV} {xs ys:Array Value} (hx:cs.length=xs.size) (hy:ds.length=ys.size)
  (h1:∀ (i:Nat) (x:AV),cs[i]? = some x->VR S A σ w x (xs.getD i undef)) (h2:∀ (i:Nat) (x:AV),ds[i]? = some x->VR S A σ w x (ys.getD i undef)) (dd:Nat) (w1:World) :
  ∀ (fs:List Field) (l:List (Nat×Sc)) (r:Bool),zdc P fs=some l->zhi cs ds l=some r->(Op.eqFields (dd+1) xs ys fs).run P w1=.ok r w1
 | [],l,r,hl,hr=>by
  simp only[zdc,Option.some.injEq] at hl;subst hl;simp only[zhi,Option.some.injEq] at hr;subst hr;simp[Op.eqFields]
 | f :: fs,l,r,hl,hr=>by
  simp only[zdc] at hl;split at hl
  ·cases hl
  ·rename_i hn
   have step:∀ (s:Sc) (l':List (Nat×Sc)),zdc P fs=some l'->l=(f.offset,s) :: l' ->
     scTy P f.type s->(Op.eqFields (dd+1) xs ys (f :: fs)).run P w1=.ok r w1:=by
    intro s l' bl hle ht;subst hle;simp only[zhi] at hr;split at hr
    ·rename_i x y ex ey;split at hr
     ·rename_i a b ha hb;cases hr;have hi:f.offset < xs.size:=by have:=(Aa.1 ex).1;omega
      have hj:f.offset < ys.size:=by have:=(Aa.1 ey).1;omega
      have ih:=n5 hx hy h1 h2 dd w1 fs l' b bl hb;have ks:=scEq_run (P:=P) (t:=f.type) ha (h1 _ _ ex) (h2 _ _ ey) ht dd w1;have kn:(isAgg f.type).run P w1=.ok false w1:=by
       unfold isAgg;cases s with
       | int=>obtain ⟨k,ht⟩:=ht;rw[Sem.run_bind,run_underlying ht];rfl
       | bool=>rw[Sem.run_bind,run_underlying ht];rfl
       | str=>rw[Sem.run_bind,run_underlying ht];rfl
      have p1:(part f.type xs f.offset).run P w1=.ok (xs.getD f.offset undef) w1:=by simp[part,kn,Array.getD,hi]
      have p2:(part f.type ys f.offset).run P w1=.ok (ys.getD f.offset undef) w1:=by simp[part,kn,Array.getD,hj]
      simp only[Op.eqFields,ne_eq,hn,not_false_eq_true,if_true,Sem.run_bind,p1,p2,ks,Result.andThen_ok];cases a<;>simp[ih]
     ·cases hr
    ·cases hr
   split at hl
   ·rename_i k l' hu bl;cases hl;exact step .int l' bl rfl ⟨k,hu⟩
   ·rename_i l' hu bl;cases hl;exact step .bool l' bl rfl hu
   ·rename_i l' hu bl;cases hl;exact step .str l' bl rfl hu
   ·cases hl
def op_eqa (h:SRel S A0 O w0 A σ w st tm) {neg:Bool} {t u:TypeId} {fs:Array Field} {l:List (Nat×Sc)} {x y:Operand} {x' y':AOpd} (ho:o.op=.binOp (if neg then .neq else .eql) t x y u) (hu:S.P.underlying t=some (.struct fs))
  (hg:S.P.eqGuardType S.P.depth t=false) (hs:S.P.stoodInHeld t=false) (hl:zdc S.P fs.toList=some l) (h1:qr S x=some x') (h2:qr S y=some y') (ha:aop (.eqa neg l x' y') d st=some (v,aa)):yS S A0 O w0 w tm df o v aa:=by
 have g1:=h.ev (df:=df) h1;have g2:=h.ev (df:=df) h2;have hf:S.P.fieldsOf t=fs:=by simp[Program.fieldsOf,hu]
 simp only[aop] at ha;split at ha
 ·rename_i cs ds du dt;rw[du] at g1;rw[dt] at g2;obtain ⟨xs,e1,l1,v1⟩:=g1.rel.agg_inv;obtain ⟨ys,e2,l2,v2⟩:=g2.rel.agg_inv;split at ha
  ·rename_i r hr;simp only[Option.some.injEq,Prod.mk.injEq] at ha;obtain ⟨rfl,rfl⟩:=ha;have ke:(Op.equalIn 10000 t (.agg xs) (.agg ys)).run S.P w=.ok r w:=(by rw[run_equalIn_agg w 9999 t xs ys (by rw[hf];exact hu) hs,hf];exact n5 l1 l2 v1 v2 9998 w fs.toList l r hl hr);refine .same h (rv:=.bool (if neg then !r else r)) ?_ (zdG _)
   cases neg
   ·simp[execOp,ho,e1,e2,run_eqGuard_agg w _ t x y xs ys hg,run_eql_struct,ke]
   ·simp[execOp,ho,e1,e2,run_eqGuard_agg w _ t x y xs ys hg,run_neq_struct,ke]
  ·cases ha
 ·cases ha
def SRel.evs (h:SRel S A0 O w0 A σ w st tm):∀ {xs:List Operand} {as:List AOpd},zhB S xs=some as ->
  xs.length=as.length∧∀ (i:Nat) (a:AV),(as.map st.ev)[i]? = some a->Got S A σ w st a ((xs.map (Act.eval ⟨tm,df⟩)).getD i undef)
 | [],as,hc=>by simp only[zhB,zb,Option.some.injEq] at hc;subst hc;exact ⟨rfl,by simp⟩
 | x :: xs,as,hc=>by
  simp only[zhB,zb] at hc;split at hc
  ·rename_i y ys hy bX;cases hc;obtain ⟨k1,k2⟩:=SRel.evs h (xs:=xs) bX;refine ⟨by simp[k1],fun i a hi => ?_⟩;cases i with
   | zero=>simp at hi;subst hi;simpa using h.ev hy
   | succ i=>simp at hi;simpa using k2 i a (by simpa using hi)
  ·cases hc
def op_mkfn (h:SRel S A0 O w0 A σ w st tm) {f id:Nat} {first caps:Array Operand} {l:List AOpd} (ho:o.op=.makeFunc (.func f) first caps) (hf:first.size=0) (hid:qh f S.fns=some id) (hl:zhB S caps.toList=some l)
  (ha:aop (.mkfn id l) d st=some (v,aa)):yS S A0 O w0 w tm df o v aa:=by
 obtain ⟨k1,k2⟩:=h.evs (df:=df) hl;simp only[aop,Option.some.injEq,Prod.mk.injEq] at ha;obtain ⟨rfl,rfl⟩:=ha;have mL:first=#[]:=B0 hf;have e:∀ i,(caps.map (Act.eval ⟨tm,df⟩)).getD i undef=(caps.toList.map (Act.eval ⟨tm,df⟩)).getD i undef:=(by intro i;simp[Aj,List.getD]);refine .same h (rv:=.func (.func f) #[] (caps.map (Act.eval ⟨tm,df⟩))) (by simp[execOp,ho,mL,Instr.makeFunc]) ⟨.fn hid (by simp at k1 ⊢;omega) fun i a hi => ?_,fun s hs => ?_⟩
 ·rw[e];exact (k2 i a hi).rel
 ·rw[AV.refs,zd] at hs;obtain ⟨x,hx,hs⟩:=hs;obtain ⟨i,hi⟩:=Ay.1 hx;exact (k2 i x hi).dang s hs
end
end
section
open Go Go.RowKit
section
variable {S:Seat} {A0:Nat->Prop} {O:Hnd} {w0:World} {A:Nat->Prop} {σ:Nat->Option Nat} {w:World} {st aa:ASt} {tm:Array Value} {df:List Deferred} {o:Oper} {v:AV} {d:Nat}
def wv.mono {A':Nat->Prop} {σ':Nat->Option Nat} {w':World} {s:Nat} {blk:Blk} (h:wv S A σ w s blk) (hA:∀ b,A b->A' b) (hw:∀ b,A b->w'.heap[b]? = w.heap[b]?)
  (hs:σ' s=σ s) (hb:∀ b,σ s=some b->w'.heap[b]? = w.heap[b]?) (hr:∀ s'∈blk.refs,dD σ σ' w w' s'):wv S A' σ' w' s blk:=by
 cases blk with
 | var cs =>obtain ⟨b,vs,el,h1,h2,h3,h4⟩:=h;exact ⟨b,vs,el,hs.trans h1,(hb _ h1).trans h2,h3,fun i x hx=>(h4 i x hx).mono hA hw fun s' ae=>hr s' (by rw[Blk.refs];exact zd.2 ⟨x,Ae hx,ae⟩)⟩
 | arr z es =>
  obtain ⟨h0,⟨h1,h2⟩ | ⟨b,vs,el,h1,h2,h3,h5,h4⟩⟩:=h
  ·exact ⟨h0,.inl ⟨hs.trans h1,h2⟩⟩
  ·exact ⟨h0,.inr ⟨b,vs,el,hs.trans h1,(hb _ h1).trans h2,h3,h5,fun i e c x hi hc=>(h4 i e c x hi hc).mono hA hw⟩⟩
def KeepO.alloc (w:World) (O:Nat->Prop) (ob:Obj):KeepO O w (w.alloc ob):=⟨rfl,rfl,rfl,by simp,fun k hk _=>heap_alloc_old w ob k hk⟩
def KeepO.drew (w:World) (O:Nat->Prop):KeepO O w w.drew:=⟨rfl,rfl,rfl,AO _,fun _ _ _=>rfl⟩
def VR0.heap {w':World} (hw:w'.heap=w.heap) {x:AV} {v:Value} (h:VR0 S A w x v):VR0 S A w' x v:=h.mono (fun _ h=>h) fun _ _=>by rw[hw]
def VR.heap {w':World} (hw:w'.heap=w.heap) {x:AV} {v:Value} (h:VR S A σ w x v):VR S A σ w' x v :=
 h.mono (fun _ h=>h) (fun _ _=>by rw[hw]) fun s _=>⟨rfl,fun b cs el _ hb=>⟨cs,by rw[hw];exact hb,rfl⟩⟩
def SRel.drew (h:SRel S A0 O w0 A σ w st tm):SRel S A0 O w0 A σ w.drew st tm :=
 ⟨fun k=>VR.heap (w:=w) (w':=w.drew) rfl (h.fr k),fun s blk hb=>(h.hp s blk hb).mono (fun _ h=>h) (fun _ _=>rfl) rfl (fun _ _=>rfl) fun _ _=>⟨rfl,fun _ cs _ _ hb=>⟨cs,hb,rfl⟩⟩,
  h.dang,h.dangV,h.dom,h.inj,h.Alt,h.Asub,h.keep.trans (KeepO.drew _ _),h.kp.same (fun _ _=>⟨rfl,fun _ cs _ _ hb=>⟨cs,hb,rfl⟩⟩) (fun _ _ _ h _=>h) fun _ cs h=>⟨cs,h⟩,h.Olt⟩
def SRel.newBlk (h:SRel S A0 O w0 A σ w st tm) {d:Nat} (hd:st.hp d=none) {vs:Array Value} {el:TypeId} {blk:Blk} (hk:∀ s∈blk.refs,st.hp s≠none)
  (hb:wv S A (upd σ d (some w.heap.size)) (w.alloc (.cells vs el)) d blk) :
  SRel S A0 O w0 A (upd σ d (some w.heap.size)) (w.alloc (.cells vs el)) (st.setH d (some blk)) tm:=by
 have hσd:σ d=none:=by
  cases hq:σ d with
  | none=>rfl
  | some b=>exact absurd hd (h.dom d b hq).1
 have hA:∀ b,A b->(w.alloc (.cells vs el)).heap[b]? = w.heap[b]?:=fun b hb=>heap_alloc_old w _ b (h.Alt b hb);have cp:∀ s,st.hp s≠none->dD σ (upd σ d (some w.heap.size)) w (w.alloc (.cells vs el)) s:=(by intro s hs;have ah:s≠d:=fun e=>hs (e ▸ hd);exact ⟨jC _ _ _ ah,fun b cs bJ hb hc=>⟨cs,by rw[heap_alloc_old w _ b (h.dom s b hb).2.1];exact hc,rfl⟩⟩)
 refine ⟨fun k=>(h.fr k).mono (fun _ h=>h) hA fun s hs=>cp s (h.dang k s hs),fun s b hs => ?_,fun k s hs => ?_,fun s cs hs s' ae => ?_,fun s b hs => ?_,fun s s' b h1 h2 => ?_,
  fun b hb=>by have:=h.Alt b hb;simp;omega,h.Asub,h.keep.trans (KeepO.alloc _ _ _),h.kp.same cp (fun s z es he _=>by
   have ah:s≠d:=fun e=>by rw[e,hd] at he;cases he
   simp only[ASt.setH,upd,if_neg ah];exact he) (fun s cs he=>⟨cs,by
   have ah:s≠d:=fun e=>by rw[e,hd] at he;cases he
   simp only[ASt.setH,upd,if_neg ah];exact he⟩),h.Olt⟩
 ·simp only[ASt.setH,upd] at hs;split at hs
  ·rename_i e;subst e;cases hs;exact hb
  ·rename_i ah;refine (h.hp s b hs).mono (fun _ h=>h) hA (jC _ _ _ ah) (fun b' ay=>heap_alloc_old w _ b' (h.dom s b' ay).2.1) fun s' ae=>cp s' ?_;cases b with
   | var cs=>exact h.dangV s cs hs s' (by rw[Blk.refs] at ae;exact ae)
   | arr z es=>simp[Blk.refs] at ae
 ·simp only[ASt.setH,upd];split
  ·simp
  ·exact h.dang k s hs
 ·simp only[ASt.setH,upd] at hs ⊢;split
  ·simp
  ·split at hs
   ·cases hs;exact hk s' (by rw[Blk.refs];exact ae)
   ·exact h.dangV s cs hs s' ae
 ·simp only[upd] at hs;split at hs
  ·rename_i e;subst e;cases hs;refine ⟨by simp[ASt.setH,upd],by simp,fun ha => ?_,.inl h.keep.size⟩;have:=h.Alt _ ha;omega
  ·rename_i ah;obtain ⟨k1,k2,k3,k4⟩:=h.dom s b hs;exact ⟨by simp[ASt.setH,upd,ah];exact k1,by simp;omega,k3,k4⟩
 ·simp only[upd] at h1 h2;split at h1
  ·rename_i e1;subst e1;cases h1;split at h2
   ·rename_i e2;exact e2.symm
   ·have:=(h.dom s' _ h2).2.1;omega
  ·split at h2
   ·rename_i e2;subst e2;cases h2;have:=(h.dom s _ h1).2.1;omega
   ·exact h.inj s s' b h1 h2
def yV (w:World) (g:Nat) (old new:Array Value) (el:TypeId) (hg:w.heap[g]? = some (.cells old el (0,0))) (hs:new.size=old.size) (s:Nat):dD σ σ w (w.setRow g new) s:=by
 refine ⟨rfl,fun b cs bJ _ hc => ?_⟩;by_cases hb:b=g
 ·subst hb;rw[hg] at hc;cases hc;exact ⟨new,setRow_heap w b old new el _ hg,hs⟩
 ·exact ⟨cs,by rw[setRow_other w g b new hb];exact hc,rfl⟩
def SRel.setBlk (h:SRel S A0 O w0 A σ w st tm) {s b:Nat} (hσ:σ s=some b) {old new:Array Value} {el:TypeId} (hg:w.heap[b]? = some (.cells old el (0,0))) (hs:new.size=old.size) {blk:Blk}
  (hk:∀ s'∈blk.refs,st.hp s'≠none) (hb:wv S A σ (w.setRow b new) s blk) (hf:(∀ z es,zav s=true->st.hp s=some (.arr z es)->∃ aX,blk=.arr z aX∧aX.length=es.length)∧∀ cs,st.hp s=some (.var cs)->∃ an,blk=.var an):SRel S A0 O w0 A σ (w.setRow b new) (st.setH s (some blk)) tm:=by
 obtain ⟨d1,d2,d3,d4⟩:=h.dom s b hσ;have hA:∀ c,A c->(w.setRow b new).heap[c]? = w.heap[c]?:=fun c hc=>setRow_other w b c new (fun e=>d3 (e ▸ hc))
 refine ⟨fun k=>(h.fr k).mono (fun _ h=>h) hA fun s' _=>yV w b old new el hg hs s',fun s' b' ae => ?_,fun k s' ae => ?_,fun s' cs ae bQ aW => ?_,fun s' b' ae => ?_,h.inj,
  fun c hc=>by rw[size_setRow];exact h.Alt c hc,h.Asub,⟨h.keep.os,h.keep.tape,h.keep.output,by rw[size_setRow];exact h.keep.size,fun k hk hO => ?_⟩,
  h.kp.of fun s' dJ hn=>⟨yV w b old new el hg hs s',fun z es he=>by
   simp only[ASt.setH,upd];split
   ·rename_i e;subst e;obtain ⟨aX,k1,k2⟩:=hf.1 z es dJ he;exact ⟨aX,by rw[k1],k2⟩
   ·exact ⟨es,he,rfl⟩,fun cs he=>by
   simp only[ASt.setH,upd];split
   ·rename_i e;subst e;obtain ⟨an,k1⟩:=hf.2 cs he;exact ⟨an,by rw[k1]⟩
   ·exact ⟨cs,he⟩⟩,h.Olt⟩
 ·simp only[ASt.setH,upd] at ae;split at ae
  ·rename_i e;subst e;cases ae;exact hb
  ·rename_i ah;refine (h.hp s' b' ae).mono (fun _ h=>h) hA rfl (fun c hc=>setRow_other w b c new fun e=>ah (h.inj s' s b (e ▸ hc) hσ)) fun bQ _=>yV w b old new el hg hs bQ
 ·simp only[ASt.setH,upd];split
  ·simp
  ·exact h.dang k s' ae
 ·simp only[ASt.setH,upd] at ae ⊢;split
  ·simp
  ·split at ae
   ·cases ae;exact hk bQ (by rw[Blk.refs];exact aW)
   ·exact h.dangV s' cs ae bQ aW
 ·obtain ⟨k1,k2,k3,k4⟩:=h.dom s' b' ae;refine ⟨?_,by rw[size_setRow];exact k2,k3,k4⟩;simp only[ASt.setH,upd];split
  ·simp
  ·exact k1
 ·rw[setRow_other w b k new (fun e=>by subst e;exact d4.elim (fun d4=>by omega) hO)];exact h.keep.block k hk hO
def SRel.scrub (h:SRel S A0 O w0 A σ w st tm) (s:Nat):SRel S A0 O w0 A σ w (st.scrub s) tm:=by
 have hx:∀ x v,VR S A σ w x v->VR S A σ w (Ab.scrub s x) v:=by
  intro x v hv;unfold Ab.scrub;split
  ·exact .of0 (.bot v)
  ·exact hv
 have hr:∀ x s',s'∈(Ab.scrub s x).refs->s'∈x.refs:=by
  intro x s' hs;unfold Ab.scrub at hs;split at hs
  ·simp[AV.refs] at hs
  ·exact hs
 have hn:∀ k,(st.scrub s).hp k≠none↔st.hp k≠none:=by intro k;simp[ASt.scrub]
 refine ⟨fun k=>hx _ _ (h.fr k),fun s' blk hb => ?_,fun k s' ae=>(hn s').2 (h.dang k s' (hr _ _ ae)),fun s' cs ae bQ aW=>(hn bQ).2 ?_,fun s' b ae => ?_,h.inj,h.Alt,h.Asub,h.keep,h.kp.same (fun _ _=>⟨rfl,fun _ cs _ _ hb=>⟨cs,hb,rfl⟩⟩) (fun s' z es he _=>by simp[ASt.scrub,he,ws]) fun s' cs he=>⟨_,by simp[ASt.scrub,he,ws];rfl⟩,h.Olt⟩
 ·simp only[ASt.scrub,Ag] at hb;obtain ⟨b0,bV,rfl⟩:=hb;have:=h.hp s' b0 bV;cases b0 with
  | var cs =>obtain ⟨b,vs,el,h1,h2,h3,h4⟩:=this;refine ⟨b,vs,el,h1,h2,by simpa using h3,fun i x hi => ?_⟩;simp only[Aw,Ag] at hi;obtain ⟨y,hy,rfl⟩:=hi;exact hx _ _ (h4 i y hy)
  | arr z es=>exact this
 ·simp only[ASt.scrub,Ag] at ae;obtain ⟨b0,bV,he⟩:=ae;cases b0 with
  | var bo =>simp only[ws,Blk.var.injEq] at he;subst he;rw[zd] at aW;obtain ⟨x,bg,b9⟩:=aW;rw[Ap] at bg;obtain ⟨y,hy,rfl⟩:=bg;exact h.dangV s' bo bV bQ (zd.2 ⟨y,hy,hr _ _ b9⟩)
  | arr z es=>simp[ws] at he
 ·obtain ⟨k1,k2⟩:=h.dom s' b ae;exact ⟨(hn s').2 k1,k2⟩
def zdS (s:Nat) (x:AV):s ∉ (Ab.scrub s x).refs:=by
 unfold Ab.scrub;split
 ·simp[AV.refs]
 ·rename_i h;simpa using h
def VR.frz (h:SRel S A0 O w0 A σ w st tm) {s z0:Nat} {es:List (List AV)} (hb:st.hp s=some (.arr z0 es)) {x:AV} {v:Value} (hv:VR S A σ w x v) :
  VR S (fun b=>A b∨σ s=some b) (fun k=>if k=s then none else σ k) w (Ab.frz s z0 es x) v:=by
 have gen:x.refs.contains s=false->VR S (fun b=>A b∨σ s=some b) (fun k=>if k=s then none else σ k) w x v:=by
  intro hc;refine hv.mono (fun _ h=>.inl h) (fun _ _=>rfl) fun s' ae => ?_;have ah:s'≠s:=fun e=>by subst e;simp at hc;exact hc ae
  exact ⟨by simp[ah],fun b cs el _ hb=>⟨cs,hb,rfl⟩⟩
 obtain ⟨k0,im⟩:=h.hp s _ hb;unfold Ab.frz;split
 ·rename_i s' z off len;split
  ·rename_i e;subst e;split
   ·rename_i hc;obtain ⟨rfl,hle⟩:=hc;have hlen:((es.drop off).take len).length=len:=by simp;omega
    rcases hv.lsl_inv with ⟨rfl,rfl,k1,rfl⟩ | ⟨b,o',cap,cs,el,rfl,k1,k2,k3,k4,k5,k6⟩
    ·exact .of0 (by simpa using VR0.slnil _)
    ·rcases im with ⟨j1,_⟩ | ⟨b',vs,bJ,j1,j2,j3,j5,j4⟩
     ·rw[j1] at k1;cases k1
     ·obtain rfl:b'=b:=Option.some.inj (j1.symm.trans k1);refine .of0 ?_;by_cases h0:len=0
      ·subst h0;simp only[B7];exact VR0.sl (es:=[]) (o:=o') (u:=fun _=>undef) (.inr k1) (BG _) (by simp) (by simp) (by simp) (by simp)
      ·have ho:=k3 (.inl (by omega));subst ho;have aG:len * z+off * z<=es.length * z:=by rw[← AZ];exact Az _ (by omega)
       have:=VR0.sl (S:=S) (A:=fun b=>A b∨σ s'=some b) (w:=w) (z:=z) (es:=(es.drop off).take len) (b:=b') (o:=off * z) (cap:=cap) (u:=fun j=>vs.getD (off * z+j) undef) (.inr k1) (by omega)
        (fun e he=>k0 e (Bk (BH he)))
        (fun j hj=>by
         rw[hlen] at hj;have:off * z+j < vs.size:=by omega
         simp[World.cell?,j2,this,Array.getD])
        (fun j hj=>by rw[hlen] at hj;exact j5 _ (by omega))
        (fun i e c a hi hc=>by
         have aq:i < len:=by have:=(Aa.1 hi).1;omega
         rw[AQ aq,Bu] at hi;have:=(j4 _ _ _ _ hi hc).mono (A':=fun b=>A b∨σ s'=some b) (fun _ h=>.inl h) (fun _ _=>rfl)
         rwa [AZ,Bv] at this)
       rwa [hlen] at this
   ·exact .of0 (.bot _)
  ·rename_i ah;exact gen (by simp[AV.refs,Ne.symm ah])
 ·rename_i s' z i off;split
  ·rename_i e;subst e;split
   ·rename_i hz;subst hz;split
    ·rename_i cs aj;obtain ⟨b,rfl,k1⟩:=hv.pe_inv;rcases im with ⟨j1,_⟩ | ⟨b',vs,bJ,j1,j2,j3,j5,j4⟩
     ·rw[j1] at k1;cases k1
     ·obtain rfl:b'=b:=Option.some.inj (j1.symm.trans k1);have aM:cs.length=z:=k0 _ (Ae aj);have hi:i < es.length:=(Aa.1 aj).1;have aG:(i+1) * z<=es.length * z:=Az _ hi;rw[AZ] at aG;exact .of0 (.ep (.inr k1) (u:=fun j=>vs.getD (i * z+j) undef) (fun j hj=>by
       have:i * z+j < vs.size:=by omega
       simp[World.cell?,j2,this,Array.getD]) fun j x hj=>(j4 _ _ _ _ aj hj).mono (fun _ h=>.inl h) (fun _ _=>rfl))
    ·exact .of0 (.bot _)
   ·exact .of0 (.bot _)
  ·rename_i ah;exact gen (by simp[AV.refs,Ne.symm ah])
 ·split
  ·exact .of0 (.bot _)
  ·rename_i hc;exact gen (by simpa using hc)
def zia (s z0:Nat) (es:List (List AV)) (x:AV) (s':Nat) (h:s'∈(Ab.frz s z0 es x).refs):s'∈x.refs∧s'≠s:=by
 unfold Ab.frz at h;split at h
 ·split at h
  ·split at h<;>simp[AV.refs] at h
  ·rename_i ah;simp[AV.refs] at h;subst h;exact ⟨by simp[AV.refs],ah⟩
 ·split at h
  ·split at h
   ·split at h<;>simp[AV.refs] at h
   ·simp[AV.refs] at h
  ·rename_i ah;simp[AV.refs] at h;subst h;exact ⟨by simp[AV.refs],ah⟩
 ·split at h
  ·simp[AV.refs] at h
  ·rename_i hc;exact ⟨h,fun e=>by subst e;simp at hc;exact hc h⟩
def SRel.freeze (h:SRel S A0 O w0 A σ w st tm) (s:Nat) (dJ:zav s=false):∃ A' σ',SRel S A0 O w0 A' σ' w (st.freeze s) tm∧(∀ b,A b->A' b)∧(∀ b,zaY st.hp s=true->σ s=some b->A' b) ∧
  (∀ s',s'≠s->σ' s'=σ s'∧zaY (st.freeze s).hp s'=zaY st.hp s'):=by
 unfold ASt.freeze;split
 ·rename_i z es hb
  refine ⟨fun b=>A b∨σ s=some b,fun k=>if k=s then none else σ k,⟨fun k=>VR.frz h hb (h.fr k),fun s' blk ae => ?_,fun k s' ae => ?_,fun s' cs ae bQ aW => ?_,fun s' b ae => ?_,fun s1 s2 b h1 h2 => ?_,
   fun b ay => ?_,fun b ay => ?_,h.keep,h.kp.of fun s' ae hn => ?_,h.Olt⟩,fun b hb=>.inl hb,fun b _ hs=>.inr hs,fun s' ah=>⟨by simp[ah], ?_⟩⟩
  ·dsimp only at ae
   split at ae
   ·cases ae
   ·rename_i ah;simp only[Ag] at ae;obtain ⟨b0,bV,rfl⟩:=ae;have hr:=h.hp s' b0 bV;cases b0 with
    | var cs =>obtain ⟨b,vs,el,h1,h2,h3,h4⟩:=hr;refine ⟨b,vs,el,by simp[ah,h1],h2,by simpa using h3,fun i x hi => ?_⟩;simp only[Aw,Ag] at hi;obtain ⟨y,hy,rfl⟩:=hi;exact VR.frz h hb (h4 i y hy)
    | arr z' aX =>exact hr.mono (fun _ h=>.inl h) (fun _ _=>rfl) (by simp[ah]) (fun _ _=>rfl) (by simp[Blk.refs])
  ·obtain ⟨k1,k2⟩:=zia _ _ _ _ _ ae;have:=h.dang k s' k1;simp[k2,this]
  ·dsimp only at ae
   split at ae
   ·cases ae
   ·simp only[Ag] at ae;obtain ⟨b0,bV,he⟩:=ae;cases b0 with
    | var bo =>simp only[frzB,Blk.var.injEq] at he;subst he;rw[zd] at aW;obtain ⟨x,bg,b9⟩:=aW;rw[Ap] at bg;obtain ⟨y,hy,rfl⟩:=bg;obtain ⟨k1,k2⟩:=zia _ _ _ _ _ b9;have:=h.dangV s' bo bV bQ (zd.2 ⟨y,hy,k1⟩);simp[k2,this]
    | arr z' aX=>simp[frzB] at he
  ·split at ae
   ·cases ae
   ·rename_i ah;obtain ⟨k1,k2,k3,k4⟩:=h.dom s' b ae;exact ⟨by simp[ah,k1],k2,fun hh=>hh.elim k3 fun e=>ah (h.inj s' s b ae e),k4⟩
  ·split at h1
   ·cases h1
   ·split at h2
    ·cases h2
    ·exact h.inj s1 s2 b h1 h2
  ·rcases ay with ay | ay
   ·exact h.Alt b ay
   ·exact (h.dom s b ay).2.1
  ·rcases ay with ay | ay
   ·exact h.Asub b ay
   ·exact .inr (h.dom s b ay).2.2.2
  ·have ah:s'≠s:=fun e=>by rw[e,dJ] at ae;cases ae
   exact ⟨⟨by simp[ah],fun b cs el _ hb=>⟨cs,hb,rfl⟩⟩,fun z es he=>⟨es,by simp[ah,he,frzB],rfl⟩,fun cs he=>⟨_,by simp[ah,he,frzB];rfl⟩⟩
  ·simp only[zaY,if_neg ah];cases hq:st.hp s' with
   | none=>simp
   | some b0=>cases b0<;>simp[frzB]
 ·rename_i hn;refine ⟨A,σ,h,fun _ h=>h,fun b hb _ => ?_,fun s' _=>⟨rfl,rfl⟩⟩;unfold zaY at hb;split at hb
  ·rename_i z es he;exact absurd he (hn z es)
  ·cases hb
def SRel.freezeL:∀ (l:List Nat) {A:Nat->Prop} {σ:Nat->Option Nat} {st:ASt},SRel S A0 O w0 A σ w st tm->zbk l=true->∃ A' σ',SRel S A0 O w0 A' σ' w (st.freezeL l) tm∧(∀ b,A b->A' b) ∧
  (∀ s∈l,∀ b,zaY st.hp s=true->σ s=some b->A' b)
 | [],A,σ,st,h,_=>⟨A,σ,h,fun _ h=>h,by simp⟩
 | s :: r,A,σ,st,h,hl=>by
  simp only[zbk,AR,Ak,AJ] at hl;obtain ⟨A1,σ1,h1,m1,k1,k2⟩:=h.freeze s hl.1;obtain ⟨A2,σ2,h2,m2,k3⟩:=SRel.freezeL r h1 hl.2;refine ⟨A2,σ2,h2,fun b hb=>m2 b (m1 b hb),fun s' ae b ha hs => ?_⟩;by_cases e:s'=s
  ·subst e;exact m2 b (k1 b ha hs)
  ·obtain ⟨e1,e2⟩:=k2 s' e;rcases Aq.1 ae with ae | ae
   ·exact absurd ae e
   ·exact k3 s' ae b (e2.trans ha) (e1.trans hs)
end
end
section
open Go Go.RowKit
section
variable {S:Seat} {A0:Nat->Prop} {O:Hnd} {w0:World} {A:Nat->Prop} {σ:Nat->Option Nat} {w:World} {st aa:ASt} {tm:Array Value} {df:List Deferred} {o:Oper} {v:AV} {d:Nat}
def zfR (h:SRel S A0 O w0 A σ w st tm) (hd:st.hp d=none) {cs:List AV} {y:Value} {e:TypeId} (hr:(execOp (Act.eval ⟨tm,df⟩) o).run S.P w=.ok (.value (.pointer (some ⟨w.heap.size,0,none⟩))) (w.alloc (.cells y.cells e)))
  (h1:cs.length=y.cells.size) (h2:∀ (i:Nat) (a:AV),cs[i]? = some a->VR S A σ w a (y.cells.getD i undef)) (h3:∀ s∈AV.refsL cs,st.hp s≠none) :
  yS S A0 O w0 w tm df o (.pv d 0) (st.setH d (some (.var cs))):=by
 refine ⟨_,_,A,_,hr,h.newBlk (vs:=y.cells) (el:=e) (blk:=.var cs) hd (by rw[Blk.refs];exact h3) ?_,.inl ⟨_,rfl,.pv (zM _ _ _),fun s hs => ?_⟩⟩
 ·refine ⟨w.heap.size,y.cells,e,zM _ _ _,heap_alloc_new w _,by omega,fun i x hx=>(h2 i x hx).mono (fun _ h=>h) (fun b hb=>heap_alloc_old w _ b (h.Alt b hb)) fun s hs => ?_⟩;have ae:=h3 s (zd.2 ⟨x,Ae hx,hs⟩);have ah:s≠d:=fun e=>ae (e ▸ hd);exact ⟨jC _ _ _ ah,fun b cs bJ hb hc=>⟨cs,by rw[heap_alloc_old w _ b (h.dom s b hb).2.1];exact hc,rfl⟩⟩
 ·rw[AV.refs,Ai] at hs;subst hs;simp[ASt.setH,upd]
def op_box (h:SRel S A0 O w0 A σ w st tm) {e:TypeId} {x:Operand} {x':AOpd} (ho:o.op=.box e x) (h1:qr S x=some x') (ha:aop (.box x') d st=some (v,aa)):yS S A0 O w0 w tm df o v aa:=by
 have g1:=h.ev (df:=df) h1;simp only[aop] at ha;split at ha
 ·rename_i cs aj hd;simp only[Option.some.injEq,Prod.mk.injEq] at ha;obtain ⟨rfl,rfl⟩:=ha;obtain ⟨k1,k2,k3,k4⟩:=g1.rel.cells aj;exact zfR h hd (y:=Act.eval ⟨tm,df⟩ x) (e:=e) (by simp[execOp,ho,Instr.box,newVar,newRow]) k1 k2 fun s hs=>g1.dang s ((k4 s).1 hs)
 ·cases ha
def jU {P:Program} {t:TypeId} {l:List Value} (h:ff P t=some l):∃ i z,P.info? t=some i∧i.zero=some z∧z.cells.toList=l∧z.cells.size=i.size∧0 < i.size∧∀ x∈l,wH x=true:=by
 unfold ff at h;split at h
 ·rename_i i hi;split at h
  ·rename_i z hz;split at h
   ·rename_i hc;cases h;exact ⟨i,z,hi,hz,rfl,hc.1,hc.2.1,Af.1 hc.2.2⟩
   ·cases h
  ·cases h
 ·cases h
def zhL {z:Value} (i:Nat) (a:AV) (hi:(z.cells.toList.map AV.v)[i]? = some a):VR S A σ w a (z.cells.getD i undef):=by simp only[Aw,Ag] at hi;obtain ⟨y,hy,rfl⟩:=hi;have:z.cells.getD i undef=y:=(by rw[Aj];simp only[Bh] at hy;rw[hy];rfl);rw[this];exact .of0 (.v y)
def refsL_v (l:List Value):AV.refsL (l.map AV.v)=[]:=by
 induction l with
 | nil=>rfl
 | cons x r ih=>simp[AV.refsL,AV.refs,ih]
def op_alloc (h:SRel S A0 O w0 A σ w st tm) {e:TypeId} {l:List Value} (ho:o.op=.alloc e) (hz:ff S.P e=some l) (ha:aop (.alloc l) d st=some (v,aa)):yS S A0 O w0 w tm df o v aa:=by
 obtain ⟨i,z,k1,k2,rfl,k4,k5,_⟩:=jU hz;simp only[aop] at ha;split at ha
 ·rename_i hd;simp only[Option.some.injEq,Prod.mk.injEq] at ha;obtain ⟨rfl,rfl⟩:=ha;exact zfR h hd (y:=z) (e:=e) (by simp[execOp,ho,Instr.alloc,zeroValue,typeInfo,k1,k2,newVar,newRow]) (by simp) (fun i a hi=>zhL i a hi) (by rw[refsL_v];simp)
 ·cases ha
def jw {cs new:List AV} {off:Nat} (h:off+new.length<=cs.length):(qP cs off new).length=cs.length:=by simp[qP];omega
def jH {cs new:List AV} {off:Nat} (h:off+new.length<=cs.length) (i:Nat):(qP cs off new)[i]? = if off<=i∧i < off+new.length then new[i - off]? else cs[i]?:=by
 have ht:(cs.take off).length=off:=by simp;omega
 unfold qP;by_cases h1:i < off
 ·rw[if_neg (by omega),AB,AM (by omega),AQ h1]
 ·by_cases h2:i < off+new.length
  ·rw[if_pos (by omega),AB,A6 (by omega),ht,AM (by omega)]
  ·rw[if_neg (by omega),A6 (by simp;omega),Bu];congr 1;simp;omega
def zf_list (off:Nat):∀ (l:List Value) (k:Nat) (arr:Array Value),off+k+l.length<=arr.size ->
  ((l.zipIdx k).foldl (fun cs p=>cs.setIfInBounds (off+p.2) p.1) arr).size=arr.size ∧
  ∀ i,((l.zipIdx k).foldl (fun cs p=>cs.setIfInBounds (off+p.2) p.1) arr).getD i undef=if off+k<=i∧i < off+k+l.length then l.getD (i - (off+k)) undef else arr.getD i undef
 | [],k,arr,_=>by
  refine ⟨rfl,fun i => ?_⟩;simp only[List.zipIdx_nil,List.foldl_nil,B4];rw[if_neg (by omega)]
 | x :: r,k,arr,h=>by
  simp only[AK] at h;obtain ⟨h1,h2⟩:=zf_list off r (k+1) (arr.setIfInBounds (off+k) x) (by simp;omega);simp only[List.zipIdx_cons,Br];refine ⟨by rw[h1];simp,fun i => ?_⟩;rw[h2 i,yq _ _ _ _ _ (by omega)];simp only[AK];by_cases e1:off+(k+1)<=i∧i < off+(k+1)+r.length
  ·rw[if_pos e1,if_pos (by omega),show i - (off+k)=(i - (off+(k+1)))+1 by omega];rfl
  ·rw[if_neg e1];by_cases e2:i=off+k
   ·subst e2;rw[if_pos rfl,if_pos (by omega)];simp
   ·rw[if_neg e2,if_neg (by omega)]
def zf_arr (off:Nat) (vs arr:Array Value) (h:off+vs.size<=arr.size) :
  (vs.zipIdx.foldl (fun cs (c,j)=>cs.setIfInBounds (off+j) c) arr).size=arr.size ∧
  ∀ i,(vs.zipIdx.foldl (fun cs (c,j)=>cs.setIfInBounds (off+j) c) arr).getD i undef=if off<=i∧i < off+vs.size then vs.getD (i - off) undef else arr.getD i undef:=by
 have:=zf_list off vs.toList 0 arr (by simpa using h);rw[← Array.foldl_toList,Array.toList_zipIdx];refine ⟨this.1,fun i => ?_⟩;have h2:=this.2 i;simp only[Bo,Ba] at h2;refine h2.trans ?_;congr 1;simp[Aj,List.getD]
def fill_ok {R:AV->Value->Prop} (place:Nat->Option (Nat×Nat)):∀ (ps:List (Nat×List AV)) (zero res:List AV) (rs:List (Nat×Value)) (arr:Array Value),
  zhg zero ps=some res->zero.length=arr.size->(∀ (i:Nat) (a:AV),zero[i]? = some a->R a (arr.getD i undef))->ps.length=rs.length ->
  (∀ (j:Nat) (p:Nat×List AV) (r:Nat×Value),ps[j]? = some p->rs[j]? = some r->place r.1=some (p.1,p.2.length)∧p.2.length=r.2.cells.size∧∀ (i:Nat) (a:AV),p.2[i]? = some a->R a (r.2.cells.getD i undef)) ->
  ∃ aF,Instr.fill place arr rs=some aF∧res.length=aF.size∧∀ (i:Nat) (a:AV),res[i]? = some a->R a (aF.getD i undef)
 | [],zero,res,rs,arr,hf,hl,hr,hn,_=>by
  cases rs with
  | nil=>simp only[zhg,Option.some.injEq] at hf;subst hf;exact ⟨arr,rfl,hl,hr⟩
  | cons=>simp at hn
 | (off,cs) :: ps,zero,res,rs,arr,hf,hl,hr,hn,hp=>by
  cases rs with
  | nil=>simp at hn
  | cons r rs =>
   obtain ⟨k1,k2,k3⟩:=hp 0 (off,cs) r rfl rfl;simp only at k1 k2 k3;simp only[zhg] at hf;split at hf
   ·rename_i hle;obtain ⟨z1,z2⟩:=zf_arr off r.2.cells arr (by omega);obtain ⟨aF,f1,f2,f3⟩:=fill_ok place ps (qP zero off cs) res rs _ hf (by rw[jw hle,z1];exact hl) (fun i a hi=>by
     rw[jH hle] at hi;rw[z2];split at hi
     ·rename_i hc;rw[if_pos (by omega)];exact k3 _ _ hi
     ·rename_i hc;rw[if_neg (by omega)];exact hr _ _ hi) (by simpa using hn) (fun j p r hj hk=>hp (j+1) p r (by simpa using hj) (by simpa using hk))
    refine ⟨aF, ?_,f2,f3⟩;obtain ⟨ri,rv⟩:=r;have k2':cs.length=rv.cells.size:=k2;simp only[Instr.fill,k1];rw[if_neg (by simp;omega)];exact f1
   ·cases hf
def zk {α β:Type} {f:α->Option β}:∀ {xs:List α} {ys:List β},zb f xs=some ys->xs.length=ys.length∧∀ (i:Nat) (y:β),ys[i]? = some y->∃ x,xs[i]? = some x∧f x=some y
 | [],ys,h=>by simp only[zb,Option.some.injEq] at h;subst h;exact ⟨rfl,by simp⟩
 | x :: xs,ys,h=>by
  simp only[zb] at h;split at h
  ·rename_i y bH hy bX;cases h;obtain ⟨h1,h2⟩:=zk bX;refine ⟨by simp[h1],fun i y' hi => ?_⟩;cases i with
   | zero=>simp at hi;subst hi;exact ⟨x,rfl,hy⟩
   | succ i=>simp at hi;obtain ⟨x',h3,h4⟩:=h2 i y' hi;exact ⟨x',by simpa using h3,h4⟩
  ·cases h
def zaj {P:Program}:∀ (fs:List Field) (l:List Nat),zb (fun (f:Field)=>wz P f.type) fs=some l ->
  ∃ places,fs.mapM (fun f=>(P.info? f.type).map fun i=>(f.offset,i.size))=some places∧∀ (j:Nat) (f:Field) (n:Nat),fs[j]? = some f->wz P f.type=some n->places[j]? = some (f.offset,n)
 | [],l,_=>⟨[],rfl,by simp⟩
 | f :: fs,l,h=>by
  simp only[zb] at h;split at h
  ·rename_i y ys hy bX;obtain ⟨places,h1,h2⟩:=zaj fs ys bX;obtain ⟨i,hi,rfl⟩:∃ i,P.info? f.type=some i∧i.size=y:=by simpa[wz] using hy
   refine ⟨(f.offset,i.size) :: places,by simp[List.mapM_cons,hi,h1],fun j f' n hj hn => ?_⟩;cases j with
   | zero=>simp at hj;subst hj;simp[wz,hi] at hn;subst hn;rfl
   | succ j=>simp at hj;simpa using h2 j f' n hj hn
  ·cases h
def op_build (h:SRel S A0 O w0 A σ w st tm) {t:TypeId} {ps:Array (Nat×Operand)} {fs:Array Field} {zero:List Value} {l:List (Nat×Nat×AOpd)} {szs:List Nat} (ho:o.op=.build t ps) (hu:S.P.underlying t=some (.struct fs))
  (hz:ff S.P t=some zero) (hl:zb (fun (p:Nat×Operand)=>match zdf S.P t p.1,qr S p.2 with | some f,some x=>(match wz S.P f.type with | some n=>some (f.offset,n,x) | none=>none) | _,_=>none) ps.toList=some l)
  (hs:zb (fun (f:Field)=>wz S.P f.type) fs.toList=some szs) (ha:aop (.build zero l) d st=some (v,aa)):yS S A0 O w0 w tm df o v aa:=by
 obtain ⟨i,z,k1,k2,rfl,k4,k5,_⟩:=jU hz;obtain ⟨places,p1,p2⟩:=zaj _ _ hs;simp only[aop] at ha;split at ha
 ·rename_i pcs eO;split at ha
  ·rename_i res aE;simp only[Option.some.injEq,Prod.mk.injEq] at ha;obtain ⟨rfl,rfl⟩:=ha;obtain ⟨a1,a2⟩:=zk hl;obtain ⟨b1,b2⟩:=zk eO
   have main:=fill_ok (R:=fun a x=>Got S A σ w st a x) (fun x=>places[x]?) pcs (z.cells.toList.map AV.v) res (ps.toList.map fun p=>(p.1,Act.eval ⟨tm,df⟩ p.2)) z.cells aE (by simp)
    (fun i a hi=>⟨zhL i a hi,fun s hs=>by have:=zd.2 ⟨a,Ae hi,hs⟩;rw[refsL_v] at this;cases this⟩) (by rw[Ar];omega)
    (fun j p r hj hr=>by
     obtain ⟨q,hq,bY⟩:=b2 j p hj;obtain ⟨q0,gZ,di⟩:=a2 j q hq;simp only[Aw,gZ,AE,Option.some.injEq] at hr;subst hr;split at di
     ·rename_i f x hf hx;split at di
      ·rename_i n hn;cases di;simp only at bY;split at bY
       ·rename_i cs aj;split at bY
        ·rename_i hlen;cases bY;have g:=h.ev (df:=df) hx;obtain ⟨c1,c2,c3,c4⟩:=g.rel.cells aj;refine ⟨?_,c1,fun i a hi=>⟨c2 i a hi,fun s hs=>g.dang s ((c4 s).1 (zd.2 ⟨a,Ae hi,hs⟩))⟩⟩;have hfj:fs.toList[q0.1]? = some f:=by simpa[zdf,hu] using hf
         simp only[hlen];exact p2 _ _ _ hfj hn
        ·cases bY
       ·cases bY
      ·cases di
     ·cases di)
   obtain ⟨aF,f1,f2,f3⟩:=main;refine .same h (rv:=.agg aF) ?_ ⟨.agg f2 fun i a hi=>(f3 i a hi).rel,fun s hs => ?_⟩
   ·have hb:S.P.built t (ps.map fun (i,x)=>(i,Act.eval ⟨tm,df⟩ x)).toList=some aF:=(by simp only[Program.built,k1,hu,k2,p1];simpa using f1);have:=run_build (P:=S.P) w t _ aF hb;simp[execOp,ho,this]
   ·rw[AV.refs,zd] at hs;obtain ⟨x,hx,hs⟩:=hs;obtain ⟨i,hi⟩:=Ay.1 hx;exact (f3 i x hi).dang s hs
  ·cases ha
 ·cases ha
end
end
section
open Go Go.RowKit
section
variable {S:Seat} {A0:Nat->Prop} {O:Hnd} {w0:World} {A:Nat->Prop} {σ:Nat->Option Nat} {w:World} {st aa:ASt} {tm:Array Value} {df:List Deferred} {o:Oper} {v:AV} {d:Nat}
structure RowRel (R:AV->Value->Prop) (z:Nat) (es:List (List AV)) (arr:Array Value):Prop where
 size:arr.size=es.length * z
 each:∀ e∈es,e.length=z
 rel:∀ (i:Nat) (e:List AV) (c:Nat) (x:AV),es[i]? = some e->e[c]? = some x->R x (arr.getD (i * z+c) undef)
 one:∀ j,j < arr.size->(arr.getD j undef).oneCell'=true
def iu {i c z n:Nat} (hi:i < n) (hc:c < z):i * z+c < n * z:=by have:(i+1) * z<=n * z:=Az _ hi;rw[AZ] at this;omega
def oc {i j c z:Nat} (h1:j * z<=i * z+c) (h2:i * z+c < j * z+z) (hc:c < z):i=j:=by
 rcases Nat.lt_trichotomy i j with h | h | h
 ·have:(i+1) * z<=j * z:=Az _ h;rw[AZ] at this;omega
 ·exact h
 ·have:(j+1) * z<=i * z:=Az _ h;rw[AZ] at this;omega
def zbp {R:AV->Value->Prop} {z:Nat}:∀ (ps:List (Nat×List AV)) (es:List (List AV)) (rs:List (Nat×Value)) (arr:Array Value),RowRel R z es arr->ps.length=rs.length ->
  (∀ (j:Nat) (p:Nat×List AV) (r:Nat×Value),ps[j]? = some p->rs[j]? = some r->r.1=p.1∧p.1 < es.length∧p.2.length=z∧p.2.length=r.2.cells.size∧(∀ (i:Nat) (a:AV),p.2[i]? = some a->R a (r.2.cells.getD i undef)) ∧
   ∀ x∈r.2.cells.toList,x.oneCell'=true) ->
  ∃ aF,Instr.fill (fun i=>some (i * z,z)) arr rs=some aF∧RowRel R z (ps.foldl (fun es p=>es.set p.1 p.2) es) aF
 | [],es,rs,arr,h,hn,_=>by
  cases rs with
  | nil=>exact ⟨arr,rfl,h⟩
  | cons=>simp at hn
 | (k,cs) :: ps,es,rs,arr,h,hn,hp=>by
  cases rs with
  | nil=>simp at hn
  | cons r rs =>
   obtain ⟨ri,rv⟩:=r;obtain ⟨k1,k2,k3,k4,k5,k6⟩:=hp 0 (k,cs) (ri,rv) rfl rfl;simp only at k1 k2 k3 k4 k5 k6;subst k1;have hle:ri * z+rv.cells.size<=arr.size:=(by rw[h.size,← k4,k3];have:(ri+1) * z<=es.length * z:=Az _ k2;rw[AZ] at this;omega);obtain ⟨z1,z2⟩:=zf_arr (ri * z) rv.cells arr hle;have h':RowRel R z (es.set ri cs) (rv.cells.zipIdx.foldl (fun cs (c,j)=>cs.setIfInBounds (ri * z+j) c) arr):=by
    refine ⟨by rw[z1,h.size];simp,fun e he => ?_,fun i e c x hi hc => ?_,fun j hj => ?_⟩
    ·rcases List.mem_or_eq_of_mem_set he with he | rfl
     ·exact h.each e he
     ·exact k3
    ·rw[z2];by_cases l9:ri=i
     ·subst l9;rw[BU k2] at hi;cases hi;have aM:=(Aa.1 hc).1;rw[if_pos (by omega),show ri * z+c - ri * z=c by omega];exact k5 c x hc
     ·have ah:=l9;rw[B3 l9] at hi;have mN:=h.each e (Ae hi);have aM:=(Aa.1 hc).1;rw[if_neg (fun hh=>ah (oc hh.1 (by omega) (by omega)).symm)];exact h.rel i e c x hi hc
    ·rw[z2];rw[z1] at hj;by_cases hc:ri * z<=j∧j < ri * z+rv.cells.size
     ·rw[if_pos hc];apply k6;have:j - ri * z < rv.cells.size:=by omega
      rw[Cs];simp[Array.getD,this]
     ·rw[if_neg hc];exact h.one j hj
   obtain ⟨aF,f1,f2⟩:=zbp ps (es.set ri cs) rs _ h' (by simpa using hn) (fun j p r hj hk=>by simpa using hp (j+1) p r (by simpa using hj) (by simpa using hk));refine ⟨aF, ?_,f2⟩;simp only[Instr.fill];rw[if_neg (by simp;omega)];exact f1
def zgG {R:AV->Value->Prop} {z:Value} {n:Nat} (hs:0 < z.cells.size) (hR:∀ x∈z.cells.toList,R (.v x) x) (h1:∀ x∈z.cells.toList,x.oneCell'=true) :
  RowRel R z.cells.size (List.replicate n (z.cells.toList.map AV.v)) ((Array.range (n * z.cells.size)).map (z.cells[· % z.cells.size]!)):=by
 have get:∀ j,j < n * z.cells.size->((Array.range (n * z.cells.size)).map (z.cells[· % z.cells.size]!)).getD j undef=z.cells[j % z.cells.size]'(mod_lt _ hs):=(by intro j hj;have hm:=mod_lt j hs;simp[Array.getD,hj,getElem!_pos,hm]);refine ⟨by simp,fun e he => ?_,fun i e c x hi hc => ?_,fun j hj => ?_⟩
 ·rw[List.mem_replicate] at he;rw[he.2];simp
 ·rw[Ch] at hi;split at hi
  ·rename_i cq;cases hi;have aM:=(Aa.1 hc).1;simp only[Ar,Ba] at aM;simp only[Aw,Ag] at hc;obtain ⟨y,hy,rfl⟩:=hc;rw[get _ (iu cq aM)];have mn:(i * z.cells.size+c) % z.cells.size=c:=by rw[Nat.mul_comm,Nat.mul_add_mod];exact Nat.mod_eq_of_lt aM
   have hyv:z.cells[(i * z.cells.size+c) % z.cells.size]'(mod_lt _ hs)=y:=by
    have:z.cells[c]? = some y:=by simpa using hy
    obtain ⟨h2,h3⟩:=Bb.1 this;simp only[mn,h3]
   rw[hyv];exact hR y (Ae hy)
  ·cases hi
 ·simp only[Array.size_map,Array.size_range] at hj;rw[get j hj];exact h1 _ (by rw[Cs];exact Array.getElem_mem _)
def RowRel.blk {z:Nat} {es:List (List AV)} {arr:Array Value} {w':World} {σ':Nat->Option Nat} {s b:Nat} {el:TypeId} (h:RowRel (VR0 S A w') z es arr) (hσ:σ' s=some b) (hb:w'.heap[b]? = some (.cells arr el (0,0))) :
  wv S A σ' w' s (.arr z es) :=
 ⟨h.each,.inr ⟨b,arr,el,hσ,hb,by rw[h.size];exact AO _,fun j hj=>h.one j (by rw[h.size];exact hj),h.rel⟩⟩
def RowRel.imp {R R':AV->Value->Prop} {z:Nat} {es:List (List AV)} {arr:Array Value} (h:RowRel R z es arr) (hr:∀ x v,R x v->R' x v):RowRel R' z es arr :=
 ⟨h.size,h.each,fun i e c x hi hc=>hr _ _ (h.rel i e c x hi hc),h.one⟩
def zar {x:Value} (h:wH x=true):x.oneCell'=true:=by cases x<;>simp_all[wH,Value.oneCell']
def yF (h:SRel S A0 O w0 A σ w st tm) {A':Nat->Prop} (hA:∀ b,A b->A' b) {x y:AV} {v:Value} (hv:VR S A σ w x v) (hs:qn st.hp x=some y) (hr:∀ s∈x.refs,∀ b,σ s=some b->A' b) :
  VR0 S A' w y v∧∀ s∈x.refs,zaY st.hp s=true:=by
 unfold qn at hs;split at hs
 ·rename_i s z i off;split at hs
  ·rename_i z' es hb;split at hs
   ·rename_i hz;split at hs
    ·rename_i cs aj;cases hs;have:=VR.frz h hb hv;simp only[Ab.frz,if_true,hz,aj] at this;refine ⟨?_,fun s' ae=>by rw[AV.refs,Ai] at ae;subst ae;simp[zaY,hb]⟩;cases this with
     | of0 h0=>exact h0.mono (fun b (hb:A b∨σ s=some b)=>hb.elim (hA b) (hr s (by simp[AV.refs]) b)) (fun _ _=>rfl)
    ·cases hs
   ·cases hs
  ·cases hs
 ·rename_i s z off len;split at hs
  ·rename_i z' es hb;split at hs
   ·rename_i hz;cases hs;have:=VR.frz h hb hv;simp only[Ab.frz,if_true,hz.1,hz.2,and_self] at this;refine ⟨?_,fun s' ae=>by rw[AV.refs,Ai] at ae;subst ae;simp[zaY,hb]⟩;cases this with
    | of0 h0=>exact (hz.1 ▸ h0).mono (fun b (hb:A b∨σ s=some b)=>hb.elim (hA b) (hr s (by simp[AV.refs]) b)) (fun _ _=>rfl)
   ·cases hs
  ·cases hs
 ·cases hs
 ·split at hs
  ·rename_i he;cases hs;have fQ:x.refs=[]:=by simpa using he
   exact ⟨(hv.to0 fQ).mono hA (fun _ _=>rfl),by rw[fQ];simp⟩
  ·cases hs
def zbS:∀ (l:List Nat) {st:ASt} {d:Nat},st.hp d=none->(st.freezeL l).hp d=none
 | [],_,_,h=>h
 | s :: r,st,d,h=>by
  refine zbS r ?_;unfold ASt.freeze;split
  ·simp[h]
  ·exact h
def jV {P:Program} {t:TypeId} {p:TypeId×Nat} (h:zdK P t=some p):P.underlying t=some (.slice p.1)∧∃ i,P.info? p.1=some i∧i.size=p.2∧0 < i.size∧i.size<=128∧i.bytes<=zja i.size:=by
 unfold zdK at h;split at h
 ·rename_i e hu;split at h
  ·rename_i i hi;split at h
   ·rename_i hc;cases h;exact ⟨hu,i,hi,rfl,hc.1,hc.2.1,hc.2.2⟩
   ·cases h
  ·cases h
 ·cases h
def run_bsl {P:Program} (w:World) (t e:TypeId) (len:Nat) (parts:Array (Nat×Value)) (cells:Array Value) (ie:TypeInfo) (z:Value)
  (hu:P.underlying t=some (.slice e)) (oZ:P.info? e=some ie) (hz:ie.zero=some z) (gf:¬ len * ie.size > 2 ^ 24)
  (h:Instr.fill (fun i=>some (i * ie.size,ie.size)) ((Array.range (len * ie.size)).map (z.cells[· % z.cells.size]!)) parts.toList=some cells) :
  (Instr.buildSlice t len parts).run P w=.ok (.slice (some ⟨w.heap.size,0,none⟩) len len) (w.alloc (.cells cells e)):=by
 by_cases bS:len * ie.size=0
 ·rw[bS] at h;have h0:(Array.range 0).map (z.cells[· % z.cells.size]!)=#[]:=by rw[Array.map_eq_empty_iff];exact B0 (by simp)
  rw[h0] at h;simp[Instr.buildSlice,run_underlying hu,Go.sizeOf,typeInfo,oZ,bS,newRow];have h2:∀ f:Nat->Value,Array.map f (Array.range 0)=#[]:=fun f=>by rw[Array.map_eq_empty_iff];exact B0 (by simp)
  simp[h2,h]
 ·exact run_buildSlice w t e len parts cells ie z hu oZ hz gf bS h
def op_bslice (h:SRel S A0 O w0 A σ w st tm) {t e:TypeId} {i:TypeInfo} {z:Value} {len:Nat} {ps:Array (Nat×Operand)} {l:List (Nat×AOpd)} {frz:Bool} (ho:o.op=.buildSlice t len ps) (hu:S.P.underlying t=some (.slice e)) (hi:S.P.info? e=some i) (hz:i.zero=some z)
  (bK:z.cells.size=i.size) (bS:0 < i.size) (bW:i.size<=128) (bT:∀ x∈z.cells.toList,wH x=true) (hl:zb (fun (p:Nat×Operand)=>if p.1 < len then (qr S p.2).map fun x=>(p.1,x) else none) ps.toList=some l)
  (hlen:len<=4096) (ha:aop (.bslice frz i.size z.cells.toList len l) d st=some (v,aa)):yS S A0 O w0 w tm df o v aa:=by
 simp only[aop] at ha;split at ha
 ·rename_i pcs hd eO;split at ha
  ·simp only[Option.some.injEq,Prod.mk.injEq] at ha;obtain ⟨rfl,rfl⟩:=ha;obtain ⟨A1,σ1,h1,m1,m2⟩:=h.freezeL (qT st l) (by
    rename_i cO;rcases cO with cO | cO
    ·exact cO.2
    ·rw[cO];rfl)
   obtain ⟨a1,a2⟩:=zk hl;obtain ⟨b1,b2⟩:=zk eO;have zr:=zgG (R:=VR0 S A1 w) (z:=z) (n:=len) (by omega) (fun x _=>.v x) (fun x hx=>zar (bT x hx));rw[bK] at zr
   obtain ⟨aF,f1,f2⟩:=zbp (R:=VR0 S A1 w) (z:=i.size) pcs (List.replicate len (z.cells.toList.map AV.v)) (ps.toList.map fun p=>(p.1,Act.eval ⟨tm,df⟩ p.2)) _ zr (by rw[Ar];omega)
    (fun j p r hj hr=>by
     obtain ⟨q,hq,bY⟩:=b2 j p hj;obtain ⟨q0,gZ,di⟩:=a2 j q hq;simp only[Aw,gZ,AE,Option.some.injEq] at hr;subst hr;split at di
     ·rename_i aq;simp only[Ag] at di;obtain ⟨x,hx,rfl⟩:=di;split at bY
      ·rename_i bo gy;split at bY
       ·rename_i cs aj;split at bY
        ·rename_i aM;cases bY;have g:=h.ev (df:=df) hx;obtain ⟨c1,c2,c3,c4⟩:=g.rel.cells gy;obtain ⟨d1,d2⟩:=zk aj;refine ⟨rfl,by simpa using aq,aM,by simp only;omega,fun i a hi => ?_,c3⟩;obtain ⟨x0,az,aC⟩:=d2 i a hi;have fp:∀ s∈x0.refs,s∈qT st l:=fun s hs=>(by unfold qT;rw[zd];exact ⟨st.ev x,Ap.2 ⟨_,Ae hq,rfl⟩,(c4 s).1 (zd.2 ⟨x0,Ae az,hs⟩)⟩);have arrs:=(yF h (A':=fun _=>True) (fun _ _=>trivial) (c2 i x0 az) aC (fun _ _ _ _=>trivial)).2;exact (yF h m1 (c2 i x0 az) aC fun s hs b hb=>m2 s (fp s hs) b (arrs s hs) hb).1
        ·cases bY
       ·cases bY
      ·cases bY
     ·cases di)
   have aD:=run_bsl (P:=S.P) w t e len (ps.map fun (i,x)=>(i,Act.eval ⟨tm,df⟩ x)) aF i z hu hi hz (by
     have:len * i.size<=4096 * 128:=BP hlen bW
     omega) (by rw[bK];simpa using f1)
   have lj:RowRel (VR0 S A1 (w.alloc (.cells aF e))) i.size (pcs.foldl (fun es p=>es.set p.1 p.2) (List.replicate len (z.cells.toList.map AV.v))) aF :=
    f2.imp fun x v hx=>hx.mono (fun _ h=>h) fun b hb=>heap_alloc_old w _ b (h1.Alt b hb)
   have cP:(pcs.foldl (fun es p=>es.set p.1 p.2) (List.replicate len (z.cells.toList.map AV.v))).length=len:=by
    have:∀ (ps:List (Nat×List AV)) (es:List (List AV)),(ps.foldl (fun es p=>es.set p.1 p.2) es).length=es.length:=by
     intro ps
     induction ps with
     | nil=>intro es;rfl
     | cons p ps ih=>intro es;simp only[Br];rw[ih];simp
    rw[this];simp
   refine ⟨.value (.slice (some ⟨w.heap.size,0,none⟩) len len),_,A1,_,by simp only[execOp,ho,Sem.run_bind,aD,Result.andThen_ok,Sem.run_pure],h1.newBlk (vs:=aF) (el:=e) (zbS _ hd) (by simp[Blk.refs]) (lj.blk (zM _ _ _) (heap_alloc_new w _)),.inl ⟨_,rfl, ?_,fun s hs => ?_⟩⟩
   ·refine .lsl (cs:=aF) (el:=e) (zM _ _ _) (AO _) (fun _=>by simp) (heap_alloc_new w _) (by rw[lj.size,cP];simp) (by unfold maxLen;omega)
   ·rw[AV.refs,Ai] at hs;subst hs;simp[ASt.setH,upd]
  ·cases ha
 ·cases ha
def op_mksl (h:SRel S A0 O w0 A σ w st tm) {t e:TypeId} {i:TypeInfo} {z:Value} {n c:Operand} {n' c':AOpd} (ho:o.op=.makeSlice t n c) (hu:S.P.underlying t=some (.slice e)) (hi:S.P.info? e=some i) (hz:i.zero=some z)
  (bK:z.cells.size=i.size) (bS:0 < i.size) (bW:i.bytes<=zja i.size) (bT:∀ x∈z.cells.toList,wH x=true) (h1:qr S n=some n') (h2:qr S c=some c')
  (ha:aop (.mksl i.size z.cells.toList n' c') d st=some (v,aa)):yS S A0 O w0 w tm df o v aa:=by
 have g1:=h.ev (df:=df) h1;have g2:=h.ev (df:=df) h2;simp only[aop] at ha;split at ha
 ·rename_i m k hd du dt;split at ha
  ·rename_i hc;obtain ⟨c1,c2,c3⟩:=hc;rw[du] at g1;rw[dt] at g2;have e1:=g1.rel.v_inv;have e2:=g2.rel.v_inv;simp only[Option.some.injEq,Prod.mk.injEq] at ha;obtain ⟨rfl,rfl⟩:=ha;have hb:(i.bytes:Int) * k<=281474976710656:=by
    have h3:=(jY (n:=k.toNat) (z:=i.size) (b:=i.bytes) (by omega) bW).2.2;have h4:((i.bytes * k.toNat:Nat):Int)=(i.bytes:Int) * k:=by rw[Int.natCast_mul,Cx (by omega)]
    omega
   have hk:k<=6000000000000:=by have:=(jY (n:=k.toNat) (z:=i.size) (b:=i.bytes) (by omega) bW).1;omega
   have hr:=run_make (P:=S.P) w t e i z hu hi hz .i64 .i64 m k c1 c2 hb (by omega);have bw:(k.toNat:Int)=k:=Cx (by omega);have zr:∀ w',RowRel (VR0 S A w') i.size (List.replicate k.toNat (z.cells.toList.map AV.v)) (madeCells z.cells (k.toNat * i.size)):=(by intro w';have:=zgG (R:=VR0 S A w') (z:=z) (n:=k.toNat) (by omega) (fun x _=>.v x) (fun x hx=>zar (bT x hx));rw[bK] at this;unfold madeCells;rw[bK];exact this);have nT:=zr (w.alloc (.cells (madeCells z.cells (k.toNat * i.size)) e));have aG:m.toNat * i.size<=(madeCells z.cells (k.toNat * i.size)).size:=by rw[size_madeCells];exact Az _ (by omega)
   have cB:wv S A (upd σ d (some w.heap.size)) (w.alloc (.cells (madeCells z.cells (k.toNat * i.size)) e)) d (.arr i.size (List.replicate m.toNat (z.cells.toList.map AV.v))):=by
    refine ⟨fun e he => ?_,.inr ⟨w.heap.size,_,e,zM _ _ _,heap_alloc_new w _,by simpa using aG,fun j hj=>nT.one j (by simp at hj;omega),fun a b cc x ha hb=>nT.rel a b cc x ?_ hb⟩⟩
    ·rw[List.mem_replicate] at he;rw[he.2];simp[bK]
    ·rw[Ch] at ha ⊢;split at ha
     ·rw[if_pos (by omega)];exact ha
     ·cases ha
   refine ⟨.value (.slice (some ⟨w.heap.size,0,none⟩) m.toNat k.toNat),_,A,_,by simp only[execOp,ho,e1,e2,Sem.run_bind,hr,Result.andThen_ok,Sem.run_pure],h.newBlk (vs:=madeCells z.cells (k.toNat * i.size)) (el:=e) hd (by simp[Blk.refs]) cB,.inl ⟨_,rfl, ?_,fun s hs => ?_⟩⟩
   ·exact .lsl (zM _ _ _) (by omega) (fun _=>by simp) (heap_alloc_new w _) (by rw[size_madeCells];simp) (by unfold maxLen;omega)
   ·rw[AV.refs,Ai] at hs;subst hs;simp[ASt.setH,upd]
  ·cases ha
 ·cases ha
def op_store (h:SRel S A0 O w0 A σ w st tm) {t:TypeId} {a x:Operand} {a' x':AOpd} {z:Nat} (ho:o.op=.store t a x) (hs:wz S.P t=some z) (h1:qr S a=some a') (h2:qr S x=some x')
  (ha:aop (.store z a' x') d st=some (v,aa)):yS S A0 O w0 w tm df o v aa:=by
 have g1:=h.ev (df:=df) h1;have g2:=h.ev (df:=df) h2;obtain ⟨i,hi,rfl⟩:∃ i,S.P.info? t=some i∧i.size=z:=by simpa[wz] using hs
 simp only[aop] at ha;split at ha
 ·rename_i new aT;obtain ⟨c1,c2,c3,c4⟩:=g2.rel.cells aT;split at ha
  ·rename_i hnl
   have key:∀ b off (old:Array Value) el,Act.eval ⟨tm,df⟩ a=.pointer (some ⟨b,off,none⟩)->w.heap[b]? = some (.cells old el (0,0))->off+i.size<=old.size ->
     ∃ arr:Array Value,(execOp (Act.eval ⟨tm,df⟩) o).run S.P w=.ok .skip (w.setRow b arr)∧arr.size=old.size ∧
      ∀ j,arr.getD j undef=if off<=j∧j < off+i.size then (Act.eval ⟨tm,df⟩ x).cells.getD (j - off) undef else old.getD j undef:=by
    intro b off old el e hb hle;have aM:(Act.eval ⟨tm,df⟩ x).cells.toList.length=i.size:=by simp;omega
    have hr:=run_storeCells_at S.P b off el (Act.eval ⟨tm,df⟩ x).cells.toList 0 old w hb (by omega) c3;simp only[Bo] at hr;refine ⟨(old.toList.take off++(Act.eval ⟨tm,df⟩ x).cells.toList++old.toList.drop (off+(Act.eval ⟨tm,df⟩ x).cells.toList.length)).toArray, ?_, ?_,fun j => ?_⟩
    ·have aG:(Act.eval ⟨tm,df⟩ x).cells.size=i.size:=by omega
     simp only[execOp,ho,Instr.storeAt,e,Instr.sureAddr,storeVar,Go.sizeOf,typeInfo,Sem.run_bind,Sem.run_pure,Result.andThen_ok,run_program,hi,aG,ne_eq,not_true_eq_false,if_false,hr]
    ·simp;omega
    ·simp only[Aj,List.getElem?_toArray,AB];by_cases j1:j < off
     ·rw[if_neg (by omega),AM (by simp;omega),AQ j1];simp
     ·by_cases j2:j < off+i.size
      ·rw[if_pos (by omega),A6 (by simp;omega),AM (by simp;omega)];simp;congr 2;omega
      ·rw[if_neg (by omega),A6 (by simp;omega),A6 (by simp;omega),Bu];simp;congr 2;omega
   split at ha
   ·rename_i s off he;rw[he] at g1;split at ha
    ·rename_i cs hb;split at ha
     ·rename_i hle;simp only[Option.some.injEq,Prod.mk.injEq] at ha;obtain ⟨rfl,rfl⟩:=ha;obtain ⟨b,e,hσ⟩:=g1.rel.pv_inv;obtain ⟨b',old,el,k1,k2,k3,k4⟩:=h.hp _ _ hb;obtain rfl:b'=b:=Option.some.inj (k1.symm.trans hσ);obtain ⟨arr,r1,r2,r3⟩:=key b' off old el e k2 (by omega);have cp:∀ s',dD σ σ w (w.setRow b' arr) s':=fun s'=>yV w b' old arr el k2 r2 s';have hA:∀ c,A c->(w.setRow b' arr).heap[c]? = w.heap[c]?:=fun c hc=>setRow_other w b' c arr (fun e=>(h.dom s b' hσ).2.2.1 (e ▸ hc));refine ⟨_,_,A,σ,r1,h.setBlk hσ k2 r2 (fun s' ae => ?_) ⟨b',arr,el,hσ,setRow_heap w b' old arr el _ k2,by rw[jw (by omega),r2];exact k3,fun j y hj => ?_⟩ ⟨fun z es _ he=>by (rw[hb] at he;cases he),fun _ _=>⟨_,rfl⟩⟩,.inr ⟨rfl,rfl⟩⟩
      ·rw[Blk.refs,zd] at ae;obtain ⟨y,hy,bX⟩:=ae;obtain ⟨j,hj⟩:=Ay.1 hy;rw[jH (by omega)] at hj;split at hj
       ·exact g2.dang s' ((c4 s').1 (zd.2 ⟨y,Ae hj,bX⟩))
       ·exact h.dangV s cs hb s' (zd.2 ⟨y,Ae hj,bX⟩)
      ·rw[jH (by omega)] at hj;rw[r3];split at hj
       ·rename_i hc;rw[if_pos (by omega)];exact (c2 _ _ hj).mono (fun _ h=>h) hA fun s' _=>cp s'
       ·rename_i hc;rw[if_neg (by omega)];exact (k4 _ _ hj).mono (fun _ h=>h) hA fun s' _=>cp s'
     ·cases ha
    ·cases ha
   ·rename_i s z0 k off he;rw[he] at g1;split at ha
    ·rename_i z' es hb;split at ha
     ·rename_i cs aj;split at ha
      ·rename_i hle;obtain ⟨rfl,hle,hnr⟩:=hle;simp only[Option.some.injEq,Prod.mk.injEq] at ha;obtain ⟨rfl,rfl⟩:=ha;obtain ⟨b,e,hσ⟩:=g1.rel.pe_inv;obtain ⟨k0,⟨k1,rfl⟩ | ⟨b',old,el,k1,k2,k3,k5,k4⟩⟩:=h.hp _ _ hb
       ·simp at aj
       ·obtain rfl:b'=b:=Option.some.inj (k1.symm.trans hσ);have hcz:cs.length=z0:=k0 _ (Ae aj);have hk:k < es.length:=(Aa.1 aj).1;have bc:(k+1) * z0<=es.length * z0:=Az _ hk;rw[AZ] at bc;obtain ⟨arr,r1,r2,r3⟩:=key b' (k * z0+off) old el e k2 (by omega);have hA:∀ c,A c->(w.setRow b' arr).heap[c]? = w.heap[c]?:=fun c hc=>setRow_other w b' c arr (fun e=>(h.dom s b' hσ).2.2.1 (e ▸ hc));have mf:∀ (j:Nat) (y:AV),new[j]? = some y->y.refs=[]:=(by intro j y hj;exact Ax.2 fun s' ae=>by have:=zd.2 ⟨y,Ae hj,ae⟩;rw[hnr] at this;cases this);refine ⟨_,_,A,σ,r1,h.setBlk hσ k2 r2 (by simp[Blk.refs]) ⟨fun e' fQ => ?_,.inr ⟨b',arr,el,hσ,setRow_heap w b' old arr el _ k2,by rw[r2];simpa using k3,fun j hj => ?_,fun ii ee c y aQ hc => ?_⟩⟩ ⟨fun z aX _ he=>by rw[hb] at he;cases he;exact ⟨_,rfl,by simp⟩,fun cs he=>by (rw[hb] at he;cases he)⟩,.inr ⟨rfl,rfl⟩⟩
        ·rcases List.mem_or_eq_of_mem_set fQ with fQ | rfl
         ·exact k0 _ fQ
         ·rw[jw (by omega)];exact hcz
        ·rw[r3];by_cases hc:k * z0+off<=j∧j < k * z0+off+i.size
         ·rw[if_pos hc];apply c3;have:j - (k * z0+off) < (Act.eval ⟨tm,df⟩ x).cells.size:=by omega
          rw[Cs];simp[Array.getD,this]
         ·rw[if_neg hc];exact k5 j (by simpa using hj)
        ·rw[r3];by_cases iY:k=ii
         ·subst iY;rw[BU hk] at aQ;cases aQ;rw[jH (by omega)] at hc;split at hc
          ·rename_i fx;rw[if_pos (by omega),show k * z0+c - (k * z0+off)=c - off by omega];exact ((c2 _ _ hc).to0 (mf _ _ hc)).mono (fun _ h=>h) hA
          ·rename_i fx;rw[if_neg (by omega)];exact (k4 _ _ _ _ aj hc).mono (fun _ h=>h) hA
         ·have ah:=iY;rw[B3 iY] at aQ;have mN:=k0 _ (Ae aQ);have aM:=(Aa.1 hc).1;rw[if_neg (fun hh=>ah (oc (i:=ii) (j:=k) (c:=c) (z:=z0) (by omega) (by omega) (by omega)).symm)];exact (k4 _ _ _ _ aQ hc).mono (fun _ h=>h) hA
      ·cases ha
     ·cases ha
    ·cases ha
   ·cases ha
  ·cases ha
 ·cases ha
end
end
section
open Go Go.RowKit
section
variable {S:Seat} {A0:Nat->Prop} {O:Hnd} {w0:World} {A:Nat->Prop} {σ:Nat->Option Nat} {w:World} {st aa:ASt} {tm:Array Value} {df:List Deferred} {o:Oper} {v:AV} {d:Nat}
def Src (w:World) (y:Value) (m:Nat) (news:List Value):Prop :=
 ∃ b c,y=.slice b m c∧((b=none∧m=0∧news=[])∨∃ ad,b=some ad∧∀ j u,news[j]? = some u->w.cell? (ad.add j)=some u)
def zgU {P:Program} {size m:Nat} {y:Value} {news:List Value} (h:Src w y m news) (hl:news.length=m * size) (w':World) (hw:w'.heap=w.heap) :
  (Builtin.firstCells size m y).run P w'=.ok news.toArray w'∧∃ b c,y=.slice b m c:=by
 obtain ⟨b,c,rfl,⟨rfl,rfl,rfl⟩ | ⟨ad,rfl,h2⟩⟩:=h
 ·exact ⟨by simp[Builtin.firstCells],_,_,rfl⟩
 ·exact ⟨run_firstCells_some (P:=P) w' size m ad m c news hl (fun j u hj=>by have:=h2 j u hj;simpa[World.cell?,hw] using this),_,_,rfl⟩
def zfy {P:Program} (t ty e:TypeId) (i:TypeInfo) (ht:P.underlying t=some (.slice e)) (hi:P.info? e=some i)
  (g n cap:Nat) (cur:Array Value) (el:TypeId) (hg:w.heap[g]? = some (.cells cur el (0,0))) {y:Value} {m:Nat} {news:List Value} (hy:Src w y m news) (hl:news.length=m * i.size) (h1:∀ u∈news,u.oneCell'=true)
  (al:n+m<=cap) (bd:n * i.size+news.length<=cur.size) :
  (Builtin.append_ #[t,t] ty #[.slice (some ⟨g,0,none⟩) n cap,y]).run P w =
   .ok (.slice (some ⟨g,0,none⟩) (n+m) cap) (w.setRow g (cur.toList.take (n * i.size)++news++cur.toList.drop (n * i.size+news.length)).toArray):=by
 obtain ⟨hf,b,c,rfl⟩:=zgU (P:=P) hy hl w rfl;have eI:=run_storeCells_at P g (n * i.size) el news 0 cur w hg (by simpa using bd) h1;simp only[Bo] at eI;simp[Builtin.append_,run_underlying ht,Go.sizeOf,typeInfo,hi,Builtin.lenOf,al,hf,Addr.add_lit,eI]
def zbI {P:Program} (t ty e:TypeId) (i:TypeInfo) (ht:P.underlying t=some (.slice e)) (hi:P.info? e=some i) {y:Value} (hy:Src w y 0 []) :
  (Builtin.append_ #[t,t] ty #[.slice none 0 0,y]).run P w=.ok (.slice none 0 0) w:=by
 obtain ⟨hf,b,c,rfl⟩:=zgU (P:=P) (size:=i.size) hy (by simp) w rfl;simp[Builtin.append_,run_underlying ht,Go.sizeOf,typeInfo,hi,Builtin.lenOf,hf]
def zbJ {P:Program} (t ty e:TypeId) (i:TypeInfo) (z:Value) (ht:P.underlying t=some (.slice e)) (hi:P.info? e=some i) (hz:i.zero=some z)
  (a:Option Addr) (n cap:Nat) (olds:List Value) (eR:olds.length=n * i.size) (holds:(a=none∧olds=[])∨∃ ad,a=some ad∧∀ j v,olds[j]? = some v->w.cell? (ad.add j)=some v)
  {y:Value} {m:Nat} {news:List Value} (hy:Src w y m news) (hl:news.length=m * i.size) (hg:cap < n+m) (nK:((n+m:Nat):Int)<=9223372036854775807) (bd:Builtin.nextslicecap (n+m) cap * i.bytes<=281474976710656) :
  (Builtin.append_ #[t,t] ty #[.slice a n cap,y]).run P w =
   .ok (.slice (some ⟨w.heap.size,0,none⟩) (n+m) (grownCap w (n+m) cap e)) (w.drew.alloc (.cells (olds.toArray++news.toArray++Builtin.zeroCells z.cells (grownCap w (n+m) cap e - (n+m))) e)):=by
 have hn:¬ (n+m<=cap):=by omega
 have nJ:¬ (9223372036854775807 < ((n:Int)+(m:Int))):=by omega
 have nL:¬ (281474976710656 < Builtin.nextslicecap (n+m) cap * i.bytes):=by omega
 obtain ⟨hf,b,c,rfl⟩:=zgU (P:=P) hy hl w.drew rfl;have hfo:(Builtin.firstCells i.size n (.slice a n cap)).run P w.drew=.ok olds.toArray w.drew:=by
  rcases holds with ⟨rfl,rfl⟩ | ⟨ad,rfl,h2⟩
  ·simp[Builtin.firstCells]
  ·exact run_firstCells_some (P:=P) w.drew i.size n ad n cap olds eR (by simpa using h2)
 simp[Builtin.append_,run_underlying ht,Go.sizeOf,typeInfo,zeroValue,hi,hz,Builtin.lenOf,hn,nJ,nL,Question.forced,hf,hfo,newRow,grownCap];congr 2;apply Array.ext';simp[AB]
def zhm (h:SRel S A0 O w0 A σ w st tm) {z:Nat} {y:AV} {rv:Value} {ys:List (List AV)} (hv:VR S A σ w y rv) (he:jz st.hp z y=some ys) :
  ∃ news,Src w rv ys.length news∧news.length=ys.length * z∧(∀ e∈ys,e.length=z)∧(∀ u∈news,u.oneCell'=true)∧∀ (i:Nat) (e:List AV) (c:Nat) (x:AV),ys[i]? = some e->e[c]? = some x->VR0 S A w x (news.getD (i * z+c) undef):=by
 have mk:∀ (b off cap:Nat) (u:Nat->Value),rv=.slice (some ⟨b,off,none⟩) ys.length cap->(∀ e∈ys,e.length=z)->(∀ j,j < ys.length * z->w.cell? ⟨b,off+j,none⟩=some (u j))->(∀ j,j < ys.length * z->(u j).oneCell'=true) ->
   (∀ (i:Nat) (e:List AV) (c:Nat) (x:AV),ys[i]? = some e->e[c]? = some x->VR0 S A w x (u (i * z+c))) ->
   ∃ news,Src w rv ys.length news∧news.length=ys.length * z∧(∀ e∈ys,e.length=z)∧(∀ u∈news,u.oneCell'=true)∧∀ (i:Nat) (e:List AV) (c:Nat) (x:AV),ys[i]? = some e->e[c]? = some x->VR0 S A w x (news.getD (i * z+c) undef):=by
  intro b off cap u hr h0 h1 h2 h3;refine ⟨(List.range (ys.length * z)).map u,⟨_,_,hr,.inr ⟨_,rfl,fun j v hj => ?_⟩⟩,by simp,h0,fun v hv => ?_,fun i e c x hi hc => ?_⟩
  ·simp only[Aw,Ag] at hj;obtain ⟨k,hk,rfl⟩:=hj;obtain ⟨gv,cN⟩:=Aa.1 hk;simp at gv cN;subst cN;rw[Addr.add_lit];exact h1 j gv
  ·rw[Ap] at hv;obtain ⟨k,hk,rfl⟩:=hv;exact h2 k (by simpa using hk)
  ·have aq:i * z+c < ys.length * z:=iu (Aa.1 hi).1 (by have:=(Aa.1 hc).1;have:=h0 e (Ae hi);omega);have:((List.range (ys.length * z)).map u).getD (i * z+c) undef=u (i * z+c):=by simp[List.getD,aq]
   rw[this];exact h3 i e c x hi hc
 unfold jz at he;split at he
 ·cases he;rw[hv.v_inv];exact ⟨[],⟨_,_,rfl,.inl ⟨rfl,rfl,rfl⟩⟩,by simp,by simp,by simp,by simp⟩
 ·cases he;rw[hv.v_inv];exact ⟨[],⟨_,_,rfl,.inr ⟨_,rfl,by simp⟩⟩,by simp,by simp,by simp,by simp⟩
 ·rename_i z' es;split at he
  ·rename_i hz;subst hz;cases he;rcases hv.sl_inv with ⟨rfl,hr⟩ | ⟨b,o',cap,u,hr,k1,k2,k3,k4,k5,k6⟩ | ⟨rfl,a,cap,hr⟩
   ·rw[hr];exact ⟨[],⟨_,_,rfl,.inl ⟨rfl,rfl,rfl⟩⟩,by simp,by simp,by simp,by simp⟩
   ·exact mk b o' cap u hr k3 k4 k5 k6
   ·rw[hr];exact ⟨[],⟨_,_,rfl,.inr ⟨_,rfl,by simp⟩⟩,by simp,by simp,by simp,by simp⟩
  ·cases he
 ·rename_i s z' off len;split at he
  ·rename_i eY es hb;split at he
   ·rename_i hc;cases he;obtain ⟨cj,cU,hle⟩:=hc;subst cj;subst cU;have hlen:((es.drop off).take len).length=len:=by simp;omega
    obtain ⟨k0,im⟩:=h.hp _ _ hb;have h0:∀ e∈(es.drop off).take len,e.length=eY:=fun e he=>k0 e (Bk (BH he));rcases hv.lsl_inv with ⟨rfl,rfl,_,hr⟩ | ⟨b,o',cap,cs,el,hr,k1,k2,k3,k4,k5,k6⟩
    ·rw[hr];exact ⟨[],⟨_,_,rfl,.inl ⟨rfl,by simp,rfl⟩⟩,by simp,by simp,by simp,by simp⟩
    ·rcases im with ⟨j1,_⟩ | ⟨b',vs,bJ,j1,j2,j3,j5,j4⟩
     ·rw[j1] at k1;cases k1
     ·obtain rfl:b'=b:=Option.some.inj (j1.symm.trans k1);by_cases e9:len=0
      ·subst e9;exact mk b' o' cap (fun _=>undef) (by rw[hlen];exact hr) h0 (by simp) (by simp) (by simp)
      ·have ho:=k3 (.inl (by omega));subst ho;have aG:len * eY+off * eY<=es.length * eY:=by rw[← AZ];exact Az _ (by omega)
       refine mk b' (off * eY) cap (fun j=>vs.getD (off * eY+j) undef) (by rw[hlen];exact hr) h0 (fun j hj => ?_) (fun j hj => ?_) (fun i e c x hi hc => ?_)
       ·rw[hlen] at hj;have:off * eY+j < vs.size:=by omega
        simp[World.cell?,j2,this,Array.getD]
       ·rw[hlen] at hj;exact j5 _ (by omega)
       ·have aq:i < len:=by have:=(Aa.1 hi).1;omega
        rw[AQ aq,Bu] at hi;have:=j4 _ _ _ _ hi hc
        rwa [AZ,Bv] at this
   ·cases he
  ·cases he
 ·cases he
def zbA {R:AV->Value->Prop} {z:Nat} {es ys:List (List AV)} {olds news rest:List Value} (h1:∀ e∈es,e.length=z) (h2:∀ e∈ys,e.length=z) (fO:olds.length=es.length * z) (dk:news.length=ys.length * z)
  (r1:∀ (i:Nat) (e:List AV) (c:Nat) (x:AV),es[i]? = some e->e[c]? = some x->R x (olds.getD (i * z+c) undef)) (r2:∀ (i:Nat) (e:List AV) (c:Nat) (x:AV),ys[i]? = some e->e[c]? = some x->R x (news.getD (i * z+c) undef))
  (i:Nat) (e:List AV) (c:Nat) (x:AV) (hi:(es++ys)[i]? = some e) (hc:e[c]? = some x):R x ((olds++news++rest).getD (i * z+c) undef):=by
 have aM:=(Aa.1 hc).1;by_cases aq:i < es.length
 ·rw[AM aq] at hi;have mN:=h1 e (Ae hi);have hb:i * z+c < olds.length:=by rw[fO];exact iu aq (by omega)
  have:=r1 i e c x hi hc;simpa[List.getD,AB,AM hb] using this
 ·rw[A6 (by omega)] at hi;have mN:=h2 e (Ae hi);have mq:=(Aa.1 hi).1;have hb:(i - es.length) * z+c < news.length:=by rw[dk];exact iu mq (by omega)
  have heq:i * z+c=olds.length+((i - es.length) * z+c):=(by rw[fO,← Bv,← AZ];congr 2;omega);have:=r2 _ e c x hi hc;rw[heq,AB,AF,A6 (by omega),AM (by omega)];simpa[List.getD] using this
def z8 (l:List Value) (j:Nat):l.toArray.getD j undef=l.getD j undef:=by simp[Aj,List.getD]
def zbB {es_len ys_len z:Nat} {olds news rest:List Value} (fO:olds.length=es_len * z) (dk:news.length=ys_len * z) (h1:∀ u∈olds,u.oneCell'=true) (h2:∀ u∈news,u.oneCell'=true) (j:Nat) (hj:j < (es_len+ys_len) * z) :
  ((olds++news++rest).getD j undef).oneCell'=true:=by
 have hb:j < (olds++news).length:=by simp[fO,dk,← AZ];exact hj
 have:(olds++news++rest).getD j undef=(olds++news)[j]:=by rw[AF,AM hb,Ac hb];rfl
 rw[this];rcases Ao.1 (Be hb) with h | h
 ·exact h1 _ h
 ·exact h2 _ h
def SRel.dropS (h:SRel S A0 O w0 A σ w st tm) {s:Nat} (dJ:zav s=false):SRel S A0 O w0 A (fun k=>if k=s then none else σ k) w (st.drop s) tm:=by
 show SRel S A0 O w0 A (fun k=>if k=s then none else σ k) w ((st.scrub s).setH s none) tm;have hq:=h.scrub s;have nr:∀ k,s ∉ ((st.scrub s).fr k).refs:=fun k=>zdS s (st.fr k);have ks:∀ s',s'≠s->dD σ (fun k=>if k=s then none else σ k) w w s':=fun s' ah=>⟨by simp[ah],fun b cs el _ hb=>⟨cs,hb,rfl⟩⟩;have nrB:∀ s' cs,(st.scrub s).hp s'=some (.var cs)->s ∉ AV.refsL cs:=by
  intro s' cs aj hm;simp only[ASt.scrub,Ag] at aj;obtain ⟨b0,_,he⟩:=aj;cases b0 with
  | var bo =>simp only[ws,Blk.var.injEq] at he;subst he;rw[zd] at hm;obtain ⟨xx,hx,hm⟩:=hm;rw[Ap] at hx;obtain ⟨yy,_,rfl⟩:=hx;exact zdS s yy hm
  | arr=>simp[ws] at he
 refine ⟨fun k=>(hq.fr k).mono (fun _ h=>h) (fun _ _=>rfl) fun s' ae=>ks s' fun e=>nr k (e ▸ ae),fun s' blk ay => ?_,fun k s' ae => ?_,fun s' cs aj bQ aW => ?_,fun s' b ae => ?_,fun a1 a2 b b1 b2 => ?_,hq.Alt,hq.Asub,hq.keep,hq.kp.of fun s' ae hn => ?_,hq.Olt⟩
 ·simp only[ASt.setH,upd] at ay;split at ay
  ·cases ay
  ·rename_i ah;refine (hq.hp s' blk ay).mono (fun _ h=>h) (fun _ _=>rfl) (by simp[ah]) (fun _ _=>rfl) fun bQ aW=>ks bQ fun e => ?_;subst e;cases blk with
   | var cs=>exact nrB s' cs ay (by rw[Blk.refs] at aW;exact aW)
   | arr=>simp[Blk.refs] at aW
 ·simp only[ASt.setH,upd];split
  ·rename_i e;subst e;exact absurd ae (nr k)
  ·exact hq.dang k s' ae
 ·simp only[ASt.setH,upd] at aj ⊢;split at aj
  ·cases aj
  ·split
   ·rename_i e;subst e;exact absurd aW (nrB s' cs aj)
   ·exact hq.dangV s' cs aj bQ aW
 ·split at ae
  ·cases ae
  ·rename_i ah;obtain ⟨d1,d2⟩:=hq.dom s' b ae;exact ⟨by simp[ASt.setH,upd,ah];exact d1,d2⟩
 ·split at b1
  ·cases b1
  ·split at b2
   ·cases b2
   ·exact hq.inj a1 a2 b b1 b2
 ·have ah:s'≠s:=fun e=>by rw[e,dJ] at ae;cases ae
  exact ⟨ks s' ah,fun z es he=>⟨es,by simp only[ASt.setH,upd,if_neg ah];exact he,rfl⟩,fun cs he=>⟨cs,by simp only[ASt.setH,upd,if_neg ah];exact he⟩⟩
def op_app (h:SRel S A0 O w0 A σ w st tm) {t e:TypeId} {i:TypeInfo} {z:Value} {x y:Operand} {x' y':AOpd} (ho:o.op=.call { callee:=.builtin .append,args:=#[x,y],argTypes:=#[t,t] }) (hu:S.P.underlying t=some (.slice e)) (hi:S.P.info? e=some i) (hz:i.zero=some z)
  (bK:z.cells.size=i.size) (bW:i.bytes<=zja i.size) (h1:qr S x=some x') (h2:qr S y=some y') (ha:aop (.app i.size x' y') d st=some (v,aa)):yS S A0 O w0 w tm df o v aa:=by
 have g1:=h.ev (df:=df) h1;have g2:=h.ev (df:=df) h2;have aD:(execOp (Act.eval ⟨tm,df⟩) o).run S.P w=((Builtin.append_ #[t,t] o.type #[Act.eval ⟨tm,df⟩ x,Act.eval ⟨tm,df⟩ y]).run S.P w).andThen fun a w'=>.ok (.value a) w':=(by simp[execOp,ho,resolve,invoke,builtin]);have fits:∀ n cap,n<=zan i.size->cap < n->Builtin.nextslicecap n cap * i.bytes<=281474976710656:=fun n cap hn hc=>growslice_fits_wide hc (jY hn bW).2.1;simp only[aop] at ha;split at ha
 ·rename_i ys bX;obtain ⟨news,s1,s2,s3,s4,s5⟩:=zhm h g2.rel bX;split at ha
  ·rename_i he;rw[he] at g1;have e1:=g1.rel.v_inv;rw[e1] at aD;split at ha
   ·rename_i al;split at ha
    ·rename_i hd;simp only[Option.some.injEq,Prod.mk.injEq] at ha;obtain ⟨rfl,rfl⟩:=ha;by_cases hm:ys.length=0
     ·have iH:ys=[]:=Bn hm;subst iH;obtain rfl:news=[]:=Bn (by simpa using s2);rw[zbI t o.type e i hu hi s1] at aD;have hσd:σ d=none:=by
       cases hq:σ d with
       | none=>rfl
       | some b=>exact absurd hd (h.dom d b hq).1
      refine ⟨_,w,A,σ,aD,⟨h.fr,fun s blk hb => ?_,fun k s hs => ?_,fun s cs hs s' ae => ?_,fun s b hs => ?_,h.inj,h.Alt,h.Asub,h.keep,h.kp.same (fun _ _=>⟨rfl,fun _ cs _ _ hb=>⟨cs,hb,rfl⟩⟩) (fun s z es he _=>by
       have ah:s≠d:=fun e=>by rw[e,hd] at he;cases he
       simp only[ASt.setH,upd,if_neg ah];exact he) (fun s cs he=>⟨cs,by
       have ah:s≠d:=fun e=>by rw[e,hd] at he;cases he
       simp only[ASt.setH,upd,if_neg ah];exact he⟩),h.Olt⟩,.inl ⟨_,rfl,.lslnil hσd,fun s hs => ?_⟩⟩
      ·simp only[ASt.setH,upd] at hb;split at hb
       ·rename_i e;subst e;cases hb;exact ⟨by simp,.inl ⟨hσd,rfl⟩⟩
       ·exact h.hp s blk hb
      ·simp only[ASt.setH,upd];split
       ·simp
       ·exact h.dang k s hs
      ·simp only[ASt.setH,upd] at hs ⊢;split
       ·simp
       ·split at hs
        ·cases hs
        ·exact h.dangV s cs hs s' ae
      ·obtain ⟨k1,k2⟩:=h.dom s b hs;refine ⟨?_,k2⟩;simp only[ASt.setH,upd];split
       ·simp
       ·exact k1
      ·rw[AV.refs,Ai] at hs;subst hs;simp[ASt.setH,upd]
     ·have hr:=zbJ (P:=S.P) t o.type e i z hu hi hz none 0 0 [] (by simp) (.inl ⟨rfl,rfl⟩) s1 s2 (by omega) (by have:=(jY al bW).1;omega) (by rw[AL];exact fits _ _ al (by omega));rw[hr] at aD;simp only[AL] at aD;have hdr:=h.drew;have ba:=grownCap_ge w ys.length 0 e;have aL:=grownCap_le_maxLen w ys.length 0 e (by have:=(jY al bW).1;unfold maxLen;omega);refine ⟨_,_,A,_,aD,hdr.newBlk (el:=e) hd (by simp[Blk.refs]) ⟨s3,.inr ⟨_,_,e,zM _ _ _,heap_alloc_new w.drew _, ?_,fun j hj => ?_,fun ii ee c xx aQ hc => ?_⟩⟩,.inl ⟨_,rfl, ?_,fun s hs => ?_⟩⟩
      ·simp only[BW,A9,B4,size_zeroCells,bK,s2];omega
      ·have:=zbB (es_len:=0) (ys_len:=ys.length) (z:=i.size) (olds:=[]) (news:=news) (rest:=(Builtin.zeroCells z.cells (grownCap w ys.length 0 e - ys.length)).toList) (by simp) s2 (by simp) s4 j (by simpa using hj);have e2:([].toArray++news.toArray++Builtin.zeroCells z.cells (grownCap w ys.length 0 e - ys.length))=([]++news++(Builtin.zeroCells z.cells (grownCap w ys.length 0 e - ys.length)).toList).toArray:=by apply Array.ext';simp
       rw[e2,z8];exact this
      ·have:=zbA (R:=VR0 S A w) (es:=[]) (olds:=[]) (rest:=(Builtin.zeroCells z.cells (grownCap w ys.length 0 e - ys.length)).toList) (by simp) s3 (by simp) s2 (by simp) s5 ii ee c xx (by simpa using aQ) hc;have e2:([].toArray++news.toArray++Builtin.zeroCells z.cells (grownCap w ys.length 0 e - ys.length))=([]++news++(Builtin.zeroCells z.cells (grownCap w ys.length 0 e - ys.length)).toList).toArray:=by apply Array.ext';simp
       rw[e2,z8];exact (VR0.heap (w:=w) (w':=w.drew) rfl this).mono (fun _ h=>h) fun b hb=>heap_alloc_old w.drew _ b (h.Alt b hb)
      ·refine .lsl (zM _ _ _) ba (fun _=>by simp) (heap_alloc_new w.drew _) ?_ aL;simp only[BW,A9,B4,size_zeroCells,bK,s2,AL,← AZ];exact Az _ (by omega)
      ·rw[AV.refs,Ai] at hs;subst hs;simp[ASt.setH,upd]
    ·cases ha
   ·cases ha
  ·rename_i s z' n he;rw[he] at g1;split at ha
   ·rename_i eY es hb;split at ha
    ·rename_i hc;obtain ⟨ca,rfl,rfl,rfl,al⟩:=hc;simp only[Option.some.injEq,Prod.mk.injEq] at ha;obtain ⟨rfl,rfl⟩:=ha;obtain ⟨k0,im⟩:=h.hp _ _ hb;have hsc:=h.scrub s;have il:(st.scrub s).hp s=some (.arr i.size es):=by simp[ASt.scrub,hb,ws]
     have bw:∀ e∈es++ys,e.length=i.size:=fun e he=>(Ao.1 he).elim (k0 e) (s3 e);have hlen:(es++ys).length=es.length+ys.length:=AX
     -- a row in new memory,under the old name
     have grow:∀ (a:Option Addr) (cap:Nat) (olds:List Value),Act.eval ⟨tm,df⟩ x=.slice a es.length cap->olds.length=es.length * i.size->((a=none∧olds=[])∨∃ ad,a=some ad∧∀ j v,olds[j]? = some v->w.cell? (ad.add j)=some v) ->
       (∀ u∈olds,u.oneCell'=true)->(∀ (ii:Nat) (e:List AV) (c:Nat) (x:AV),es[ii]? = some e->e[c]? = some x->VR0 S A w x (olds.getD (ii * i.size+c) undef))->cap < es.length+ys.length ->
       yS S A0 O w0 w tm df o (.lsl s i.size 0 (es.length+ys.length)) ((st.scrub s).setH s (some (.arr i.size (es++ys)))):=by
      intro a cap olds e1 l1 l2 l3 l4 l5;have hr:=zbJ (P:=S.P) t o.type e i z hu hi hz a es.length cap olds l1 l2 s1 s2 l5 (by have:=(jY al bW).1;omega) (fits _ _ al l5);rw[e1,hr] at aD;simp only[Result.andThen_ok] at aD;have ba:=grownCap_ge w (es.length+ys.length) cap e;have aL:=grownCap_le_maxLen w (es.length+ys.length) cap e (by have:=(jY al bW).1;unfold maxLen;omega);generalize hzc:Builtin.zeroCells z.cells (grownCap w (es.length+ys.length) cap e - (es.length+ys.length))=zc at aD;have lN:zc.size=(grownCap w (es.length+ys.length) cap e - (es.length+ys.length)) * i.size:=by rw[← hzc,size_zeroCells,bK]
      have e2:(olds.toArray++news.toArray++zc)=(olds++news++zc.toList).toArray:=by apply Array.ext';simp
      rw[e2] at aD
      -- the state without the row
      have mo:SRel S A0 O w0 A (fun k=>if k=s then none else σ k) w.drew ((st.scrub s).setH s none) tm:=h.drew.dropS ca;have heq:((st.scrub s).setH s none).setH s (some (.arr i.size (es++ys)))=(st.scrub s).setH s (some (.arr i.size (es++ys))):=by
       simp only[ASt.setH];congr 1;funext k;simp only[upd]
       split<;>rfl
      rw[← heq];refine ⟨_,_,A,_,aD,mo.newBlk (el:=e) (by simp[ASt.setH,upd]) (by simp[Blk.refs]) ⟨bw,.inr ⟨_,_,e,zM _ _ _,heap_alloc_new w.drew _, ?_,fun j hj => ?_,fun ii ee c xx aQ hc => ?_⟩⟩,.inl ⟨_,rfl, ?_,fun s' ae => ?_⟩⟩
      ·simp[l1,s2,AZ]
      ·rw[z8];exact zbB l1 s2 l3 s4 j (by rw[hlen] at hj;exact hj)
      ·rw[z8];exact (VR0.heap (w:=w) (w':=w.drew) rfl (zbA k0 s3 l1 s2 l4 s5 ii ee c xx aQ hc)).mono (fun _ h=>h) fun b hb=>heap_alloc_old w.drew _ b (h.Alt b hb)
      ·refine .lsl (zM _ _ _) ba (fun _=>by simp) (heap_alloc_new w.drew _) ?_ aL;simp only[A9,AX,Ba,l1,s2,lN,AL,← AZ];exact Az _ (by omega)
      ·rw[AV.refs,Ai] at ae;subst ae;simp[ASt.setH,upd]
     rcases g1.rel.lsl_inv with ⟨_,hn0,kσ,e1⟩ | ⟨b,o',cap,cs,el,e1,j1,j2,j3,j4,j5,j6⟩
     ·have cP:es=[]:=Bn hn0;subst cP;by_cases hm:ys.length=0
      ·have iH:ys=[]:=Bn hm;subst iH;obtain rfl:news=[]:=Bn (by simpa using s2);rw[e1,zbI t o.type e i hu hi s1] at aD;have heq:(st.scrub s).setH s (some (.arr i.size ([]++[])))=st.scrub s:=by
        simp only[ASt.setH];cases hq:st.scrub s with
        | mk f p =>
         simp only;congr 1;funext k;simp only[upd];split
         ·rename_i e;subst e;rw[hq] at il;exact il.symm
         ·rfl
       rw[heq];exact ⟨_,w,A,σ,aD,hsc,.inl ⟨_,rfl,.lslnil kσ,fun s' ae=>by rw[AV.refs,Ai] at ae;subst ae;rw[il];simp⟩⟩
      ·exact grow none 0 [] e1 (by simp) (.inl ⟨rfl,rfl⟩) (by simp) (by simp) (by simp;omega)
     ·rcases im with ⟨q1,_⟩ | ⟨b',vs,bJ,q1,q2,q3,q5,q4⟩
      ·rw[q1] at j1;cases j1
      ·obtain rfl:b'=b:=Option.some.inj (q1.symm.trans j1);rw[q2] at j4;simp only[Option.some.injEq,Obj.cells.injEq] at j4;obtain ⟨e3,e4,_⟩:=j4;subst e3;subst e4;have fN:=j3 (.inr rfl);simp only[Nat.zero_mul] at fN;subst fN;simp only[AL] at j5;have gq:(vs.toList.take (es.length * i.size)).length=es.length * i.size:=by simp;omega
       have aZ:∀ j,j < es.length * i.size->(vs.toList.take (es.length * i.size)).getD j undef=vs.getD j undef:=(by intro j hj;simp[List.getD,Aj,AQ hj]);have aY:∀ u∈vs.toList.take (es.length * i.size),u.oneCell'=true:=(by intro u hu;obtain ⟨j,hj⟩:=Ay.1 hu;have fb:=(Aa.1 hj).1;rw[gq] at fb;have e3:=aZ j fb;simp only[List.getD,hj,A5] at e3;rw[e3];exact q5 j fb);have hrel:∀ (ii:Nat) (e:List AV) (c:Nat) (x:AV),es[ii]? = some e->e[c]? = some x->VR0 S A w x ((vs.toList.take (es.length * i.size)).getD (ii * i.size+c) undef):=(by intro ii ee c xx aQ hc;rw[aZ _ (iu (Aa.1 aQ).1 (by have:=(Aa.1 hc).1;have:=k0 ee (Ae aQ);omega))];exact q4 _ _ _ _ aQ hc);by_cases hr:es.length+ys.length<=cap
       ·have bd:es.length * i.size+news.length<=vs.size:=(by rw[s2,← AZ];exact AH (Az _ hr) j5);have hrr:=zfy (P:=S.P) t o.type e i hu hi b' es.length cap vs bJ q2 s1 s2 s4 hr bd;rw[e1,hrr] at aD;simp only[Result.andThen_ok] at aD;generalize aT:(vs.toList.take (es.length * i.size)++news++vs.toList.drop (es.length * i.size+news.length))=nw at aD;have aG:nw.toArray.size=vs.size:=by rw[← aT];simp;omega
        have hA:∀ c,A c->(w.setRow b' nw.toArray).heap[c]? = w.heap[c]?:=fun c hc=>setRow_other w b' c _ (fun e=>(h.dom s b' q1).2.2.1 (e ▸ hc));refine ⟨_,_,A,σ,aD,hsc.setBlk q1 q2 aG (by simp[Blk.refs]) ⟨bw,.inr ⟨b',_,bJ,q1,setRow_heap w b' vs _ bJ _ q2, ?_,fun j hj => ?_,fun ii ee c xx aQ hc => ?_⟩⟩ ⟨fun z es _ _=>by simp_all,fun cs he=>by (rw[il] at he;cases he)⟩,.inl ⟨_,rfl, ?_,fun s' ae => ?_⟩⟩
        ·rw[aG,hlen];exact AH (Az _ hr) j5
        ·rw[z8,← aT];exact zbB gq s2 aY s4 j (by rw[hlen] at hj;exact hj)
        ·rw[z8];have hx:=(zbA (rest:=vs.toList.drop (es.length * i.size+news.length)) k0 s3 gq s2 hrel s5 ii ee c xx aQ hc).mono (w':=w.setRow b' nw.toArray) (fun _ h=>h) hA;rw[aT] at hx;exact hx
        ·exact .lsl q1 hr (fun _=>by simp) (setRow_heap w b' vs _ bJ _ q2) (by rw[aG];simpa using j5) j6
        ·rw[AV.refs,Ai] at ae;subst ae;simp[ASt.setH,upd]
       ·exact grow _ cap _ e1 gq (.inr ⟨_,rfl,fun j v hj=>by
         have fb:=(Aa.1 hj).1;rw[gq] at fb;rw[AQ fb] at hj;rw[Addr.add_lit,AL,cell_of_row w b' j vs bJ _ q2];simpa using hj⟩) aY hrel (by omega)
    ·cases ha
   ·cases ha
  ·cases ha
 ·cases ha
end
end
section
open Go Go.RowKit
section
variable {S:Seat} {A0:Nat->Prop} {O:Hnd} {w0:World} {A:Nat->Prop} {σ:Nat->Option Nat} {w:World} {st aa:ASt} {tm:Array Value} {df:List Deferred} {o:Oper} {v:AV} {d:Nat}
def SRel.grow (h:SRel S A0 O w0 A σ w st tm) {w':World} {A':Nat->Prop} (hk:KeepO (fun _=>False) w w') (h1:∀ b,A b->A' b) (h2:∀ b,A' b->A b∨w.heap.size<=b) (h3:∀ b,A' b->b < w'.heap.size):SRel S A0 O w0 A' σ w' st tm:=by
 have hA:∀ b,A b->w'.heap[b]? = w.heap[b]?:=fun b hb=>hk.block b (h.Alt b hb) (fun e=>e);have hs:∀ s,dD σ σ w w' s:=fun s=>⟨rfl,fun b cs el hb hc=>⟨cs,by rw[hk.block b (h.dom s b hb).2.1 (fun e=>e)];exact hc,rfl⟩⟩;refine ⟨fun k=>(h.fr k).mono h1 hA fun s _=>hs s,fun s blk hb=>(h.hp s blk hb).mono h1 hA rfl (fun b hb=>hk.block b (h.dom s b hb).2.1 (fun e=>e)) fun s' _=>hs s',h.dang,h.dangV,fun s b hb => ?_,h.inj,h3,fun b hb => ?_, ?_, ?_,h.Olt⟩
 ·obtain ⟨k1,k2,k3,k4⟩:=h.dom s b hb;exact ⟨k1,AD k2 hk.size,fun ay=>(h2 b ay).elim k3 (fun e=>by omega),k4⟩
 ·rcases h2 b hb with hb | hb
  ·exact h.Asub b hb
  ·exact .inr (.inl (AH h.keep.size hb))
 ·exact h.keep.trans ⟨hk.os,hk.tape,hk.output,hk.size,fun k au _=>hk.block k au (fun e=>e)⟩
 ·exact h.kp.same (fun s _=>hs s) (fun _ _ _ h _=>h) fun _ cs h=>⟨cs,h⟩
def op_cvs (h:SRel S A0 O w0 A σ w st tm) {s t e:TypeId} {i:TypeInfo} {x:Operand} {x':AOpd} (ho:o.op=.convert s t x) (hs:S.P.underlying s=some .string) (ht:S.P.underlying t=some (.slice e)) (he:S.P.underlying e=some (.int .u8)) (h1:qr S x=some x')
  (ha:aop (.cvs x') d st=some (v,aa)):yS S A0 O w0 w tm df o v aa:=by
 have g1:=h.ev (df:=df) h1;simp only[aop] at ha;split at ha
 ·rename_i b hb;rw[hb] at g1;have e1:=g1.rel.v_inv;simp only[Option.some.injEq,Prod.mk.injEq] at ha;obtain ⟨rfl,rfl⟩:=ha;generalize aj:(b.data.map (fun c=>Value.int .u8 c.toNat)++Array.replicate (grownCap w b.size 0 e - b.size) (.int .u8 0))=cs;have aD:(execOp (Act.eval ⟨tm,df⟩) o).run S.P w=.ok (.value (.slice (some ⟨w.heap.size,0,none⟩) b.size (grownCap w b.size 0 e))) ((w.drew.alloc (.cells cs e)).freeze ⟨w.heap.size,cs.size,none⟩ 1):=by
   have h0:(w.drew.alloc (.cells cs e)).heap[w.heap.size]? = some (.cells cs e (0,0)):=heap_alloc_new w.drew _;have hsh:(w.drew.alloc (.cells cs e)).shape? w.heap.size=some (e,cs.size):=by simp only[World.shape?,h0]
   have mT:(b.data.map (fun c=>Value.int .u8 c.toNat)++Array.replicate ((Question.appendCap b.size 0 e).cut (w.tape w.drawn (Question.appendCap b.size 0 e)) - b.size) (.int .u8 0))=cs:=aj;have hcv:(Conv.stringToBytes e b).run S.P w=.ok (.slice (some ⟨w.heap.size,0,none⟩) b.size (grownCap w b.size 0 e)) ((w.drew.alloc (.cells cs e)).freeze ⟨w.heap.size,cs.size,none⟩ 1):=(by simp[Conv.stringToBytes,Question.forced,newRow,markStringish];rw[mT,hsh];simp[grownCap]);simp[execOp,ho,e1,convert,run_underlying hs,run_underlying ht,run_underlying he,hcv]
  have hlen:b.size<=cs.size:=by rw[← aj];simp
  have aT:((w.drew.alloc (.cells cs e)).freeze ⟨w.heap.size,cs.size,none⟩ 1).heap[w.heap.size]? = some (.cells cs e (cs.size,cs.size+1)):=by
   have h0:(w.drew.alloc (.cells cs e)).heap[w.heap.size]? = some (.cells cs e (0,0)):=heap_alloc_new w.drew _;have aq:w.heap.size < (w.drew.alloc (.cells cs e)).heap.size:=by simp
   simp only[World.freeze];rw[if_neg (by omega)];simp only[Array.getElem?_modify,if_true,h0,AE];simp
  have hold:∀ k,k < w.heap.size->((w.drew.alloc (.cells cs e)).freeze ⟨w.heap.size,cs.size,none⟩ 1).heap[k]? = w.heap[k]?:=(by intro k hk;simp only[World.freeze];rw[if_neg (by omega)];simp only[Array.getElem?_modify];rw[if_neg (by omega)];exact heap_alloc_old w.drew _ k hk);have bp:((w.drew.alloc (.cells cs e)).freeze ⟨w.heap.size,cs.size,none⟩ 1).heap.size=w.heap.size+1:=(by simp[World.freeze]);generalize hw':(w.drew.alloc (.cells cs e)).freeze ⟨w.heap.size,cs.size,none⟩ 1=w' at *;have eT:KeepO (fun _=>False) w w':=(by refine ⟨?_, ?_, ?_,by omega,fun k hk _=>hold k hk⟩<;>(subst hw';simp only[World.freeze];rw[if_neg (by omega)];rfl))
  have gx:=h.grow (A':=fun c=>A c∨c=w.heap.size) eT (fun _ h=>.inl h) (fun c hc=>hc.imp id (fun e=>by omega)) (fun c hc=>hc.elim (fun hc=>by have:=h.Alt c hc;omega) (fun e=>by omega));refine ⟨_,w',_,σ,aD,gx,.inl ⟨_,rfl,.of0 ?_,by simp[AV.refs]⟩⟩;have hl:(b.data.toList.map fun c=>[AV.v (.int .u8 c.toNat)]).length=b.size:=by simp
  have aZ:∀ j,j < b.size->cs.getD j undef=.int .u8 (b.data.toList.getD j 0).toNat:=(by intro j hj;have bF:j < b.data.size:=hj;rw[← aj,Aj,Bq (by simpa using bF),Array.getElem?_map,AF,Bh,A8 bF];rfl)
  have:=VR0.sl (S:=S) (A:=fun c=>A c∨c=w.heap.size) (w:=w') (z:=1) (es:=b.data.toList.map fun c=>[AV.v (.int .u8 c.toNat)]) (b:=w.heap.size) (o:=0) (cap:=grownCap w b.size 0 e) (u:=fun j=>cs.getD j undef) (.inr rfl)
   (by rw[hl];exact grownCap_ge w _ _ _) (by intro e he;rw[Ap] at he;obtain ⟨c,_,rfl⟩:=he;rfl)
   (fun j hj=>by
    rw[hl,Co] at hj;have:j < cs.size:=by omega
    simp[World.cell?,aT,Array.getD,this])
   (fun j hj=>by rw[hl,Co] at hj;simp only[aZ j hj];rfl)
   (fun ii ee c xx hi hc=>by
    have kT:ii < b.size:=by rw[← hl];exact (Aa.1 hi).1
    simp only[Aw,Ag] at hi;obtain ⟨y,hy,rfl⟩:=hi;cases c with
    | zero =>simp at hc;subst hc;simp only[Co,Bo,aZ ii kT,List.getD,hy,A5];exact .v _
    | succ c=>simp at hc)
  rwa [hl] at this
 ·cases ha
def ziG {x y:AV} (h:qn (fun _=>none) x=some y):y=x∧x.refs=[]:=by
 cases x with
 | pe=>simp[qn] at h
 | lsl=>simp[qn] at h
 | own=>simp[qn] at h
 | _ =>
  simp only[qn] at h;split at h
  ·rename_i e;exact ⟨(Option.some.inj h).symm,Bt.1 e⟩
  ·cases h
def op_lit (h:SRel S A0 O w0 A σ w st tm) {t e:TypeId} {i:TypeInfo} {z:Value} {len:Nat} {ps:Array (Nat×Operand)} {l:List (Nat×AOpd)} (ho:o.op=.buildSlice t len ps) (hu:S.P.underlying t=some (.slice e)) (hi:S.P.info? e=some i) (hz:i.zero=some z)
  (bK:z.cells.size=i.size) (bS:0 < i.size) (bW:i.size<=128) (bT:∀ x∈z.cells.toList,wH x=true) (hl:zb (fun (p:Nat×Operand)=>if p.1 < len then (qr S p.2).map fun x=>(p.1,x) else none) ps.toList=some l)
  (hlen:len<=4096) (ha:aop (.lit i.size z.cells.toList len l) d st=some (v,aa)):yS S A0 O w0 w tm df o v aa:=by
 simp only[aop] at ha;split at ha
 ·rename_i pcs eO;simp only[Option.some.injEq,Prod.mk.injEq] at ha;obtain ⟨rfl,rfl⟩:=ha;obtain ⟨a1,a2⟩:=zk hl;obtain ⟨b1,b2⟩:=zk eO;have zr:=zgG (R:=VR0 S A w) (z:=z) (n:=len) (by omega) (fun x _=>.v x) (fun x hx=>zar (bT x hx));rw[bK] at zr
  obtain ⟨aF,f1,f2⟩:=zbp (R:=VR0 S A w) (z:=i.size) pcs (List.replicate len (z.cells.toList.map AV.v)) (ps.toList.map fun p=>(p.1,Act.eval ⟨tm,df⟩ p.2)) _ zr (by rw[Ar];omega)
   (fun j p r hj hr=>by
    obtain ⟨q,hq,bY⟩:=b2 j p hj;obtain ⟨q0,gZ,di⟩:=a2 j q hq;simp only[Aw,gZ,AE,Option.some.injEq] at hr;subst hr;split at di
    ·rename_i aq;simp only[Ag] at di;obtain ⟨x,hx,rfl⟩:=di;split at bY
     ·rename_i bo gy;split at bY
      ·rename_i cs aj;split at bY
       ·rename_i aM;cases bY;have g:=h.ev (df:=df) hx;obtain ⟨c1,c2,c3,c4⟩:=g.rel.cells gy;obtain ⟨d1,d2⟩:=zk aj;refine ⟨rfl,by simpa using aq,aM,by simp only;omega,fun i a hi => ?_,c3⟩;obtain ⟨x0,az,aC⟩:=d2 i a hi;obtain ⟨rfl,cm⟩:=ziG aC;exact (c2 i a az).to0 cm
       ·cases bY
      ·cases bY
     ·cases bY
    ·cases di)
  have aD:=run_bsl (P:=S.P) w t e len (ps.map fun (i,x)=>(i,Act.eval ⟨tm,df⟩ x)) aF i z hu hi hz (by
    have:len * i.size<=4096 * 128:=BP hlen bW
    omega) (by rw[bK];simpa using f1)
  generalize mO:pcs.foldl (fun es p=>es.set p.1 p.2) (List.replicate len (z.cells.toList.map AV.v))=es at f2;have cP:es.length=len:=by
   have:∀ (ps:List (Nat×List AV)) (es:List (List AV)),(ps.foldl (fun es p=>es.set p.1 p.2) es).length=es.length:=by
    intro ps
    induction ps with
    | nil=>intro es;rfl
    | cons p ps ih=>intro es;simp only[Br];rw[ih];simp
   rw[← mO,this];simp
  have hold:∀ k,k < w.heap.size->(w.alloc (.cells aF e)).heap[k]? = w.heap[k]?:=fun k hk=>heap_alloc_old w _ k hk;have aT:(w.alloc (.cells aF e)).heap[w.heap.size]? = some (.cells aF e (0,0)):=heap_alloc_new w _;have eT:KeepO (fun _=>False) w (w.alloc (.cells aF e)):=⟨rfl,rfl,rfl,by simp,fun k hk _=>hold k hk⟩;have gx:=h.grow (A':=fun c=>A c∨c=w.heap.size) eT (fun _ h=>.inl h) (fun c hc=>hc.imp id (fun e=>by omega)) (fun c hc=>hc.elim (fun hc=>by have:=h.Alt c hc;simp;omega) (fun e=>by simp;omega));have lj:RowRel (VR0 S (fun c=>A c∨c=w.heap.size) (w.alloc (.cells aF e))) i.size es aF:=f2.imp fun x v hx=>hx.mono (fun _ h=>.inl h) fun b hb=>hold b (h.Alt b hb);have cB:wv S (fun c=>A c∨c=w.heap.size) (fun _=>some w.heap.size) (w.alloc (.cells aF e)) 0 (.arr i.size es):=lj.blk rfl aT;obtain ⟨q0,⟨q1,_⟩ | ⟨b',vs,bJ,q1,q2,q3,q4,q5⟩⟩:=cB
  ·cases q1
  ·cases q1;rw[aT] at q2;cases q2;refine ⟨.value (.slice (some ⟨w.heap.size,0,none⟩) len len),_,_,σ,by simp only[execOp,ho,Sem.run_bind,aD,Result.andThen_ok,Sem.run_pure],gx,.inl ⟨_,rfl,.of0 ?_,by simp[AV.refs]⟩⟩
   have:=VR0.sl (S:=S) (A:=fun c=>A c∨c=w.heap.size) (w:=w.alloc (.cells aF e)) (z:=i.size) (es:=es) (b:=w.heap.size) (o:=0) (cap:=len) (u:=fun j=>aF.getD j undef) (.inr rfl) (by rw[cP];exact AO _) q0
    (fun j hj=>by
     have h1:j < aF.size:=by omega
     simp only[World.cell?,aT,AL];simp[Array.getD,h1]) (fun j hj=>q4 j hj) (fun ii ee c xx hi hc=>q5 ii ee c xx hi hc)
   rwa [cP] at this
 ·cases ha
def yE (h:SRel S A0 O w0 A σ w st tm) {A':Nat->Prop} (hA:∀ b,A b->A' b) {x y:AV} {v:Value} (hv:VR S A σ w x v) (hs:qm st.hp x=some y)
  (hr:∀ s b,σ s=some b->(s∈x.refs∨∃ s'∈x.refs,zaY st.hp s'=false)->A' b):VR0 S A' w y v:=by
 unfold qm at hs;split at hs
 ·rename_i s off;split at hs
  ·rename_i cs hb;split at hs
   ·rename_i an aj;cases hs;obtain ⟨b,rfl,hσ⟩:=hv.pv_inv;obtain ⟨b',vs,el,k1,k2,k3,k4⟩:=h.hp _ _ hb;obtain rfl:b'=b:=Option.some.inj (k1.symm.trans hσ);obtain ⟨d1,d2⟩:=zk aj;have all:∀ s' b',σ s'=some b'->A' b':=fun s' b' ae=>hr s' b' ae (.inr ⟨s,by simp[AV.refs],by simp[zaY,hb]⟩);have:=VR0.ep (S:=S) (A:=A') (w:=w) (cs:=an) (off:=off) (b:=b') (o:=0) (u:=fun j=>vs.getD j undef) (all s b' hσ) (fun j hj=>by
     have:j < vs.size:=by omega
     simp[World.cell?,k2,this,Array.getD]) (fun j x hj=>by
     obtain ⟨x0,az,aC⟩:=d2 j x hj;exact (yF h hA (k4 j x0 az) aC fun s' _ b'' ae=>all s' b'' ae).1)
    simpa using this
   ·cases hs
  ·cases hs
 ·rename_i cs;split at hs
  ·rename_i an aj;cases hs;obtain ⟨vs,rfl,k1,k2⟩:=hv.agg_inv;obtain ⟨d1,d2⟩:=zk aj;refine .agg (by omega) fun j x hj => ?_;obtain ⟨x0,az,aC⟩:=d2 j x hj;exact (yF h hA (k2 j x0 az) aC fun s hs b hb=>hr s b hb (.inl (by rw[AV.refs];exact zd.2 ⟨x0,Ae az,hs⟩))).1
  ·cases hs
 ·exact (yF h hA hv hs fun s ae b hb=>hr s b hb (.inl ae)).1
def zcb (h:SRel S A0 O w0 A σ w st tm) {A':Nat->Prop} (hA:∀ b,A b->A' b) {x y:AV} {v:Value} (hv:VR S A σ w x v) (hs:wx st.hp x=some y)
  (hr:∀ s b,σ s=some b->(s∈x.refs∨∃ s'∈x.refs,zaY st.hp s'=false)->A' b):VR0 S A' w y v:=by
 have sub:∀ {cs:List AV} {x0:AV} {j:Nat},cs[j]? = some x0->∀ s∈x0.refs,s∈AV.refsL cs:=fun hx s hs=>zd.2 ⟨_,Ae hx,hs⟩;unfold wx at hs;split at hs
 ·rename_i f caps;split at hs
  ·rename_i an aj;cases hs;obtain ⟨g,vs,rfl,k0,k1,k2⟩:=hv.fn_inv;obtain ⟨d1,d2⟩:=zk aj;refine .fn k0 (by omega) fun j x hj => ?_;obtain ⟨x0,az,aC⟩:=d2 j x hj;exact yE h hA (k2 j x0 az) aC fun s b hb hh=>hr s b hb (by rw[AV.refs];exact hh.imp (sub az s) fun ⟨s',h1,h2⟩=>⟨s',sub az s' h1,h2⟩)
  ·cases hs
 ·rename_i cs;split at hs
  ·rename_i an aj;cases hs;obtain ⟨vs,rfl,k1,k2⟩:=hv.tup_inv;obtain ⟨d1,d2⟩:=zk aj;refine .tup (by omega) fun j x hj => ?_;obtain ⟨x0,az,aC⟩:=d2 j x hj;exact yE h hA (k2 j x0 az) aC fun s b hb hh=>hr s b hb (by rw[AV.refs];exact hh.imp (sub az s) fun ⟨s',h1,h2⟩=>⟨s',sub az s' h1,h2⟩)
  ·cases hs
 ·rename_i cs;split at hs
  ·rename_i an aj;cases hs;obtain ⟨vs,rfl,k1,k2⟩:=hv.agg_inv;obtain ⟨d1,d2⟩:=zk aj;refine .agg (by omega) fun j x hj => ?_;obtain ⟨x0,az,aC⟩:=d2 j x hj;exact yE h hA (k2 j x0 az) aC fun s b hb hh=>hr s b hb (by rw[AV.refs];exact hh.imp (sub az s) fun ⟨s',h1,h2⟩=>⟨s',sub az s' h1,h2⟩)
  ·cases hs
 ·exact yE h hA hv hs hr
def yI {A':Nat->Prop} {w':World} {x:AV} {v:Value} (h:VR0 S A w x v) (hp:x.plain1=true):VR0 S A' w' x v:=by
 cases h with
 | bot=>exact .bot _
 | v=>exact .v _
 | @ifc t T y v h1 h2 =>
  cases y with
  | v x=>cases h2;exact .ifc h1 (.v _)
  | bot=>exact .ifc h1 (.bot _)
  | _=>simp[AV.plain1] at hp
 | _=>simp[AV.plain1] at hp
def zbf {A':Nat->Prop} {w':World} {x:AV} {v:Value} (h:VR0 S A w x v) (hp:x.plain2=true):VR0 S A' w' x v:=by
 by_cases hx:∃ cs,x=.agg cs
 ·obtain ⟨cs,rfl⟩:=hx;cases h with
  | agg h1 h2=>exact .agg h1 fun i x hx=>yI (h2 i x hx) (Af.1 hp x (Ae hx))
 ·refine yI h ?_;unfold AV.plain2 at hp;unfold AV.plain1;split at hp
  ·rfl
  ·rfl
  ·rfl
  ·rfl
  ·exact absurd ⟨_,rfl⟩ hx
  ·cases hp
def zfF {A':Nat->Prop} {w':World} {x:AV} {v:Value} (h:VR0 S A w x v) (hp:x.plain=true):VR0 S A' w' x v:=by
 by_cases hx:∃ cs,x=.agg cs
 ·obtain ⟨cs,rfl⟩:=hx;cases h with
  | agg h1 h2=>exact .agg h1 fun i x hx=>yI (h2 i x hx) (Af.1 hp x (Ae hx))
 ·by_cases hy:∃ cs,x=.tup cs
  ·obtain ⟨cs,rfl⟩:=hy;cases h with
   | tup h1 h2=>exact .tup h1 fun i x hx=>zbf (h2 i x hx) (Af.1 hp x (Ae hx))
  ·refine yI h ?_;unfold AV.plain at hp;unfold AV.plain1;split at hp
   ·rfl
   ·rfl
   ·rfl
   ·rfl
   ·exact absurd ⟨_,rfl⟩ hx
   ·exact absurd ⟨_,rfl⟩ hy
   ·cases hp
def SRel.jpre (h:SRel S A0 O w0 A σ w st tm) (jr:JR S A0 O w0):JR S (fun b=>A b∨∃ s,σ s=some b) (fun _=>False) w:=by
 have aT:∀ b,S.jg b->¬ (w0.heap.size<=b∨O b):=fun b hb e=>e.elim (fun e=>by have:=jr.lt b hb;omega) (jr.no b hb);refine ⟨S.jnK w0 w (fun b hb=>⟨jr.lt b hb,h.keep.block b (jr.lt b hb) (jr.no b hb)⟩) jr.jn,fun b hb=>AD (jr.lt b hb) h.keep.size,fun b hb ha => ?_,fun b hb e=>e,jr.ng⟩;rcases ha with ha | ⟨s,hs⟩
 ·exact (h.Asub b ha).elim (jr.na b hb) (aT b hb)
 ·exact aT b hb (h.dom s b hs).2.2.2
def SRel.jpreA (h:SRel S A0 O w0 A σ w st tm) (jr:JR S A0 O w0):JR S A (fun _=>False) w:=(h.jpre jr).mono (fun _ h=>.inl h) fun _ h=>h
def SRel.reb (h:SRel S A0 O w0 A σ w st tm) (jr:JR S A0 O w0) {w':World} (hw:w.heap.size<=w'.heap.size) (hj:S.jn w'):SRel S A0 O (w3 S w0 w') A σ (w3 S w w') st tm∧JR S A0 O (w3 S w0 w'):=by
 have jp:=h.jpre jr;have hA:∀ b,A b->(w3 S w w').heap[b]? = w.heap[b]?:=fun b hb=>jG fun e=>jp.na b e (.inl hb);have hσ:∀ s b,σ s=some b->(w3 S w w').heap[b]? = w.heap[b]?:=fun s b hb=>jG fun e=>jp.na b e (.inr ⟨s,hb⟩);have cp:∀ s,dD σ σ w (w3 S w w') s:=fun s=>⟨rfl,fun b cs el hb hc=>⟨cs,by rw[hσ s b hb];exact hc,rfl⟩⟩;refine ⟨⟨fun k=>(h.fr k).mono (fun _ h=>h) hA fun s _=>cp s,fun s blk hb=>(h.hp s blk hb).mono (fun _ h=>h) hA rfl (fun b hb=>hσ s b hb) fun s' _=>cp s',h.dang,h.dangV,fun s b hs => ?_,h.inj,fun b hb=>by rw[zF];exact h.Alt b hb,fun b hb=>by rw[zF];exact h.Asub b hb, ?_,h.kp.of fun s _ _=>⟨cp s,fun z es he=>⟨es,he,rfl⟩,fun cs he=>⟨cs,he⟩⟩,fun b hb=>by rw[zF];exact h.Olt.1 b hb,h.Olt.2.1, ?_⟩, ?_⟩
 ·rw[zF,zF];exact h.dom s b hs
 ·refine ⟨h.keep.os,h.keep.tape,h.keep.output,by rw[zF,zF];exact h.keep.size,fun k hk hO => ?_⟩;rw[zF] at hk;have cN:=AD hk h.keep.size;by_cases c:S.jg k
  ·rw[zev c hk (AD cN hw),zev c cN (AD cN hw)]
  ·rw[jG c,jG c];exact h.keep.block k hk hO
 ·exact h.Olt.2.2.keep (O:=S.jg) jr.ng ⟨rfl,rfl,rfl,by rw[zF];exact AO _,fun k _ hO=>jG hO⟩
 ·exact ⟨S.jnK w' _ (fun b hb=>⟨AD (AD (jr.lt b hb) h.keep.size) hw,zev hb (jr.lt b hb) (AD (AD (jr.lt b hb) h.keep.size) hw)⟩) hj,fun b hb=>by rw[zF];exact jr.lt b hb,jr.na,jr.no,jr.ng⟩
def zaE (S:Seat) (A0:Nat->Prop) (O:Hnd) (w0:World) (A:Nat->Prop) (σ:Nat->Option Nat) (w:World) (st:ASt) (tm:Array Value):Prop :=
 ∃ w1,RebR S w0 w1∧JR S A0 O w1∧SRel S A0 O w1 A σ w st tm
def yA (S:Seat) (A:Nat->Prop) (w:World) (b?:Option Nat) (x:AV) (v:Value):Prop :=
 match x with
 | .own z es=>z7 S A w b? z es v
 | x=>b? = none∧VR0 S A w x v
def zI (A:Nat->Prop) (β:Nat->Option Nat) (w w':World) (b:Nat):Prop:=(A b∨w.heap.size<=b)∧b < w'.heap.size∧∀ i,β i≠some b
def qY (S:Seat) (A:Nat->Prop) (w:World) (β:Nat->Option Nat) (r:AV) (v:Value):Prop :=
 match r with
 | .tup rs=>∃ vs,v=.tuple vs∧rs.length=vs.size∧∀ (i:Nat) (x:AV),rs[i]? = some x->yA S A w (β i) x (vs.getD i undef)
 | r=>yA S A w (β 0) r v
def zgD (S:Seat) (A:Nat->Prop) (w w':World) (r:AV) (v:Value):Prop :=
 ∃ β:Nat->Option Nat,(∀ i b,β i=some b->w.heap.size<=b∧b < w'.heap.size)∧(∀ i j b,β i=some b->β j=some b->i=j)∧qY S (zI A β w w') w' β r v
def zck (S:Seat) (g:FuncId) (args:List AV) (r:AV):Prop :=
 ∀ (A:Nat->Prop) (w:World) (vs:Array Value),vs.size=args.length->((∀ b,A b->b < w.heap.size)∧Inv S w)->(∀ (i:Nat) (x:AV),args[i]? = some x->VR0 S A w x (vs.getD i undef)) ->
  Calls S.P g vs w fun e w'=>∃ v,e=.returned v∧KeepO (fun _=>False) w w'∧zgD S A w w' r v
def zdw (S:Seat) (g:FuncId) (args:List AV) (r:AV):Prop :=
 ∀ (A:Nat->Prop) (w:World) (vs:Array Value),vs.size=args.length->((∀ b,A b->b < w.heap.size)∧Inv S w)->JR S A (fun _=>False) w->(∀ (i:Nat) (x:AV),args[i]? = some x->VR0 S A w x (vs.getD i undef)) ->
  Calls S.P g vs w fun e w'=>∃ v,e=.returned v∧KeepO S.jg w w'∧S.jn w'∧zgD S A w w' r v
def zck.up {g:FuncId} {args:List AV} {r:AV} (h:zck S g args r):zdw S g args r:=by intro A w vs hl hA hJ ha;refine (h A w vs hl hA ha).mono ?_;rintro e w' ⟨v,he,hk,hr⟩;exact ⟨v,he,⟨hk.os,hk.tape,hk.output,hk.size,fun k au _=>hk.block k au fun e=>e⟩,hJ.after hk,hr⟩
def zgD.same {w1 w':World} {r:AV} {v:Value} (hs:w1.heap.size=w.heap.size) (h:zgD S A w w' r v):zgD S A w1 w' r v:=by
 obtain ⟨β,h1,h2,h3⟩:=h;have e:zI A β w1 w'=zI A β w w':=by funext b;simp only[zI,hs]
 exact ⟨β,fun i b hb=>by rw[hs];exact h1 i b hb,h2,by rw[e];exact h3⟩
def zgD.reb {w':World} {r:AV} {v:Value} (h:zgD S A w w' r v):zgD S A (w3 S w w') w' r v:=h.same zF
def qI (ι:Nat->Option Nat) (b:Nat):Prop:=∃ i,ι i=some b
def jO (ι:Nat->Option Nat) (outs:bO) (b:Nat):Prop:=∃ i,ι i=some b∧∀ es,(i,es) ∉ outs
def zbC (S:Seat) (args:List AV) (ι:Nat->Option Nat) (vs:Array Value) (w w':World) (outs:bO) (A':Nat->Prop):Prop :=
 ∀ (i:Nat) (es:List (List AV)) (z:Nat) (bf:List (List AV)),(i,es)∈outs->args[i]? = some (.own z bf)->es.length=bf.length∧z7 S A' w' (ι i) z es (vs.getD i undef) ∧
  ∀ b cs el,ι i=some b->w.heap[b]? = some (.cells cs el (0,0))->∃ an,w'.heap[b]? = some (.cells an el (0,0))∧an.size=cs.size
def zgE (S:Seat) (A E:Nat->Prop) (T:(Nat->Prop)->Prop) (w w':World) (r:AV) (v:Value):Prop :=
 ∃ β:Nat->Option Nat,(∀ i b,β i=some b->(w.heap.size<=b∨E b)∧b < w'.heap.size)∧(∀ i j b,β i=some b->β j=some b->i=j)∧T (zI (fun b=>A b∨E b) β w w')∧qY S (zI (fun b=>A b∨E b) β w w') w' β r v
def zeg (S:Seat) (g:FuncId) (args:List AV) (r:AV) (outs:bO):Prop :=
 ∀ (A:Nat->Prop) (w:World) (vs:Array Value) (ι:Nat->Option Nat),vs.size=args.length->((∀ b,A b->b < w.heap.size)∧Inv S w) ->
  ((∀ i b,ι i=some b->i < args.length∧b < w.heap.size∧¬ A b∧∀ p∈S.globB,p≠b)∧∀ i j b,ι i=some b->ι j=some b->i=j) ->
  (∀ (i:Nat) (x:AV),args[i]? = some x->yA S A w (ι i) x (vs.getD i undef)) ->
  Calls S.P g vs w fun e w'=>∃ v,e=.returned v∧KeepO (qI ι) w w'∧zgE S A (jO ι outs) (zbC S args ι vs w w' outs) w w' r v
def wo (S:Seat) (g:FuncId) (args:List AV) (r:AV) (outs:bO):Prop :=
 ∀ (A:Nat->Prop) (w:World) (vs:Array Value) (ι:Nat->Option Nat),vs.size=args.length->((∀ b,A b->b < w.heap.size)∧Inv S w) ->
  ((∀ i b,ι i=some b->i < args.length∧b < w.heap.size∧¬ A b∧∀ p∈S.globB,p≠b)∧∀ i j b,ι i=some b->ι j=some b->i=j)->JR S A (qI ι) w ->
  (∀ (i:Nat) (x:AV),args[i]? = some x->yA S A w (ι i) x (vs.getD i undef)) ->
  Calls S.P g vs w fun e w'=>∃ v,e=.returned v∧KeepO (fun b=>qI ι b∨S.jg b) w w'∧S.jn w'∧zgE S A (jO ι outs) (zbC S args ι vs w w' outs) w w' r v
def zeg.up {g:FuncId} {args:List AV} {r:AV} {outs:bO} (h:zeg S g args r outs):wo S g args r outs:=by intro A w vs ι hl hA hι hJ ha;refine (h A w vs ι hl hA hι ha).mono ?_;rintro e w' ⟨v,he,hk,hr⟩;exact ⟨v,he,⟨hk.os,hk.tape,hk.output,hk.size,fun k au hn=>hk.block k au fun e=>hn (.inl e)⟩,S.jnK w w' (fun b hb=>⟨hJ.lt b hb,hk.block b (hJ.lt b hb) (hJ.no b hb)⟩) hJ.jn,hr⟩
def z7.mono {A A':Nat->Prop} (hA:∀ b,A b->A' b) {b?:Option Nat} {z:Nat} {es:List (List AV)} {v:Value} (h:z7 S A w b? z es v):z7 S A' w b? z es v:=by
 obtain ⟨h0,h1 | ⟨b,cap,vs,el,h1,h2,h3,h4,h5,h6,h7,h8⟩⟩:=h
 ·exact ⟨h0,.inl h1⟩
 ·exact ⟨h0,.inr ⟨b,cap,vs,el,h1,h2,h3,h4,h5,h6,h7,fun i e c x hi hc=>(h8 i e c x hi hc).mono hA fun _ _=>rfl⟩⟩
def yA.mono {A A':Nat->Prop} (hA:∀ b,A b->A' b) {b?:Option Nat} {x:AV} {v:Value} (h:yA S A w b? x v):yA S A' w b? x v:=by
 cases x with
 | own z es=>exact z7.mono hA h
 | _=>exact ⟨h.1,h.2.mono hA fun _ _=>rfl⟩
def qY.mono {A A':Nat->Prop} (hA:∀ b,A b->A' b) {β:Nat->Option Nat} {r:AV} {v:Value} (h:qY S A w β r v):qY S A' w β r v:=by
 cases r with
 | tup rs=>obtain ⟨vs,h1,h2,h3⟩:=h;exact ⟨vs,h1,h2,fun i x hx=>(h3 i x hx).mono hA⟩
 | _=>unfold qY at h ⊢;exact yA.mono hA h
def qM {x:AV} {v:Value} (h:VR0 S A w x v):yA S A w none x v:=by
 cases x with
 | own z es=>cases h
 | _=>exact ⟨rfl,h⟩
def wn {b?:Option Nat} {x:AV} {v:Value} (h:yA S A w b? x v) (hx:zm x=false):b? = none∧VR0 S A w x v:=by
 cases x with
 | own z es=>simp[zm] at hx
 | _=>exact h
def wF {g:FuncId} {args:List AV} {r:AV} (h:zdw S g args r) (ha:∀ x∈args,zm x=false):wo S g args r []:=by intro A w vs ι hl hA hι hJ hargs;refine (h A w vs hl hA (hJ.mono (fun _ h=>h) fun _ h=>h.elim) fun i x hx=>(wn (hargs i x hx) (ha x (Ae hx))).2).mono ?_;rintro e w' ⟨v,he,hk,hj,β,hβ,aA,hr⟩;refine ⟨v,he,⟨hk.os,hk.tape,hk.output,hk.size,fun k au hn=>hk.block k au (fun e=>hn (.inr e))⟩,hj,β,fun i b hb=>⟨.inl (hβ i b hb).1,(hβ i b hb).2⟩,aA,(fun i es z bf hm=>by cases hm),hr.mono fun b hb=>⟨hb.1.imp .inl id,hb.2⟩⟩
def w4 {g:FuncId} {args:List AV} {r:AV} (h:zck S g args r) (ha:∀ x∈args,zm x=false):wo S g args r []:=wF h.up ha
def wo.old {g:FuncId} {args:List AV} {r:AV} (h:wo S g args r []) (ha:∀ x∈args,zm x=false):zdw S g args r:=by
 intro A w vs hl hA hJ hargs;refine (h A w vs (fun _=>none) hl hA ⟨by simp,by simp⟩ (hJ.mono (fun _ h=>h) fun b ⟨i,e⟩=>by cases e) fun i x hx=>qM (hargs i x hx)).mono ?_;rintro e w' ⟨v,he,hk,hj,β,hβ,aA,_,hr⟩;have hE:∀ b,¬ jO (fun _=>none) [] b:=fun b ⟨i,h,_⟩=>by cases h
 refine ⟨v,he,⟨hk.os,hk.tape,hk.output,hk.size,fun k au hn=>hk.block k au (fun e=>e.elim (fun ⟨i,e⟩=>by cases e) hn)⟩,hj,β,fun i b hb=>⟨(hβ i b hb).1.resolve_right (hE b),(hβ i b hb).2⟩,aA,hr.mono fun b hb=>⟨hb.1.imp (fun h=>h.resolve_right (hE b)) id,hb.2⟩⟩
structure Plain (S:Seat):Prop where
 g:∀ b,¬ S.jg b
 n:∀ w,S.jn w
def wo.old0 (hP:Plain S) {g:FuncId} {args:List AV} {r:AV} (h:wo S g args r []) (ha:∀ x∈args,zm x=false):zck S g args r:=by intro A w vs hl hA hargs;refine (h.old ha A w vs hl hA (.none hP.g hP.n _ _ _) hargs).mono ?_;rintro e w' ⟨v,he,hk,_,hr⟩;exact ⟨v,he,⟨hk.os,hk.tape,hk.output,hk.size,fun k au _=>hk.block k au (hP.g k)⟩,hr⟩
def zgQ {hp:Nat->Option Blk} {x y:AV} (h:qn hp x=some y):zm y=false:=by
 cases x with
 | own z es=>simp[qn] at h
 | pe s z i off=>simp only[qn] at h;repeat' split at h
                 all_goals (first | (cases h;rfl) | cases h)
 | lsl s z off len=>simp only[qn] at h;repeat' split at h
                    all_goals (first | (cases h;rfl) | cases h)
 | _=>simp only[qn] at h;repeat' split at h
      all_goals (first | (cases h;rfl) | cases h)
def zgP {hp:Nat->Option Blk} {x y:AV} (h:qm hp x=some y):zm y=false:=by
 cases x with
 | pv s off=>simp only[qm] at h;repeat' split at h
             all_goals (first | (cases h;rfl) | cases h)
 | agg cs=>simp only[qm] at h;repeat' split at h
           all_goals (first | (cases h;rfl) | cases h)
 | _=>simp only[qm] at h;exact zgQ h
def jP {hp:Nat->Option Blk} {x y:AV} (h:wx hp x=some y):zm y=false:=by
 cases x with
 | fn f cs=>simp only[wx] at h;repeat' split at h
            all_goals (first | (cases h;rfl) | cases h)
 | tup cs=>simp only[wx] at h;repeat' split at h
           all_goals (first | (cases h;rfl) | cases h)
 | agg cs=>simp only[wx] at h;repeat' split at h
           all_goals (first | (cases h;rfl) | cases h)
 | _=>simp only[wx] at h;exact zgP h
def zjj (S:Seat) (A:Nat->Prop) (w:World) (b:Nat) (ι:Nat->Option Nat) (cs:List AV) (el:TypeId) (m:Nat):Prop :=
 ∃ ob:Array Value,w.heap[b]? = some (.cells ob el (0,0))∧ob.size=m∧cs.length<=m∧∀ (j:Nat) (x:AV),cs[j]? = some x->yA S A w (ι j) x (ob.getD j undef)
def Foot (b:Nat) (ι:Nat->Option Nat) (c:Nat):Prop:=c=b∨qI ι c
structure FootOk (S:Seat) (A:Nat->Prop) (w:World) (b:Nat) (ι:Nat->Option Nat):Prop where
 lt:∀ c,Foot b ι c->c < w.heap.size∧¬ A c∧∀ p∈S.globB,p≠c
 ne:∀ i,ι i≠some b
 inj:∀ i j c,ι i=some c->ι j=some c->i=j
def RealO (S:Seat) (g:FuncId) (cs args:List AV) (r:AV) (an:List AV):Prop :=
 ∀ (A:Nat->Prop) (w:World) (vs:Array Value) (b:Nat) (ι:Nat->Option Nat) (el:TypeId) (m:Nat),vs.size=args.length+1->vs.getD 0 undef=.pointer (some ⟨b,0,none⟩)->((∀ c,A c->c < w.heap.size)∧Inv S w) ->
  FootOk S A w b ι->JR S A (Foot b ι) w->zjj S A w b ι cs el m->(∀ (i:Nat) (x:AV),args[i]? = some x->VR0 S A w x (vs.getD (i+1) undef)) ->
  Calls S.P g vs w fun e w'=>∃ v β,e=.returned v∧KeepO (fun c=>Foot b ι c∨S.jg c) w w'∧S.jn w'∧(∀ i c,β i=some c->(w.heap.size<=c∨qI ι c)∧c < w'.heap.size)∧(∀ i j c,β i=some c->β j=some c->i=j) ∧
   zjj S (zI (fun c=>A c∨qI ι c) β w w') w' b (fun j=>β (2 * j+1)) an el m∧qY S (zI (fun c=>A c∨qI ι c) β w w') w' (fun i=>β (2 * i)) r v
def RealN (S:Seat) (g:FuncId) (args rs cs:List AV):Prop :=
 ∀ (A:Nat->Prop) (w:World) (vs:Array Value),vs.size=args.length->((∀ c,A c->c < w.heap.size)∧Inv S w)->JR S A (fun _=>False) w->(∀ (i:Nat) (x:AV),args[i]? = some x->VR0 S A w x (vs.getD i undef)) ->
  Calls S.P g vs w fun e w'=>∃ us b β el m,e=.returned (.tuple us)∧KeepO S.jg w w'∧S.jn w'∧β 0=some b∧us.getD 0 undef=.pointer (some ⟨b,0,none⟩)∧(∀ i c,β i=some c->w.heap.size<=c∧c < w'.heap.size)∧(∀ i j c,β i=some c->β j=some c->i=j) ∧
   zjj S (zI A β w w') w' b (fun j=>β (2 * j+1)) cs el m∧rs.length+1=us.size∧∀ (i:Nat) (x:AV),rs[i]? = some x->yA S (zI A β w w') w' (β (2 * (1+i))) x (us.getD (1+i) undef)
def za (S:Seat):Rets:=⟨fun f args r outs=>∀ g,qh g S.fns=some f->wo S g args r outs,fun st st1=>∀ (A0:Nat->Prop) (O:Hnd) (w0:World) (A:Nat->Prop) (σ:Nat->Option Nat) (w:World) (tm:Array Value),SRel S A0 O w0 A σ w st tm->∃ A' σ',SRel S A0 O w0 A' σ' w st1 tm,
 fun f cs args r an=>∀ g,qh g S.fns=some f->RealO S g cs args r an,fun f args rs cs=>∀ g,qh g S.fns=some f->RealN S g args rs cs⟩
end
end
section
open Go Go.RowKit
section
variable {S:Seat} {A0:Nat->Prop} {O:Hnd} {w0:World} {A:Nat->Prop} {σ:Nat->Option Nat} {w:World} {st aa:ASt} {tm:Array Value} {df:List Deferred} {o:Oper} {v:AV} {d:Nat}
def SRel.addSite (h:SRel S A0 O w0 A σ w st tm) {d:Nat} (hd:st.hp d=none) {b?:Option Nat} {blk:Blk} (hr:blk.refs=[]) (hb:wv S A (upd σ d b?) w d blk)
  (hq:∀ b,b? = some b->b < w.heap.size∧¬ A b∧(w0.heap.size<=b∨O b)∧∀ s,σ s≠some b):SRel S A0 O w0 A (upd σ d b?) w (st.setH d (some blk)) tm:=by
 have cp:∀ s,st.hp s≠none->dD σ (upd σ d b?) w w s:=fun s hs=>⟨jC _ _ _ (fun e=>hs (e ▸ hd)),fun b cs el _ hb=>⟨cs,hb,rfl⟩⟩;refine ⟨fun k=>(h.fr k).mono (fun _ h=>h) (fun _ _=>rfl) fun s hs=>cp s (h.dang k s hs),fun s b hs => ?_,fun k s hs => ?_,fun s cs hs s' ae => ?_,fun s b hs => ?_,fun s s' b h1 h2 => ?_,h.Alt,h.Asub,h.keep,h.kp.same cp (fun s z es he _=>by
  have ah:s≠d:=fun e=>by rw[e,hd] at he;cases he
  simp only[ASt.setH,upd,if_neg ah];exact he) (fun s cs he=>⟨cs,by
  have ah:s≠d:=fun e=>by rw[e,hd] at he;cases he
  simp only[ASt.setH,upd,if_neg ah];exact he⟩),h.Olt⟩
 ·simp only[ASt.setH,upd] at hs;split at hs
  ·rename_i e;subst e;cases hs;exact hb
  ·rename_i ah;refine (h.hp s b hs).mono (fun _ h=>h) (fun _ _=>rfl) (jC _ _ _ ah) (fun _ _=>rfl) fun s' ae=>cp s' ?_;cases b with
   | var cs=>exact h.dangV s cs hs s' (by rw[Blk.refs] at ae;exact ae)
   | arr z es=>simp[Blk.refs] at ae
 ·simp only[ASt.setH,upd];split
  ·simp
  ·exact h.dang k s hs
 ·simp only[ASt.setH,upd] at hs ⊢;split
  ·simp
  ·split at hs
   ·cases hs;rw[Blk.refs] at hr;rw[hr] at ae;cases ae
   ·exact h.dangV s cs hs s' ae
 ·simp only[upd] at hs;split at hs
  ·rename_i e;subst e;obtain ⟨k1,k2,k3,k4⟩:=hq b hs;exact ⟨by simp[ASt.setH,upd],k1,k2,k3⟩
  ·rename_i ah;obtain ⟨k1,k2⟩:=h.dom s b hs;exact ⟨by simp[ASt.setH,upd,ah];exact k1,k2⟩
 ·simp only[upd] at h1 h2;split at h1
  ·rename_i e1;split at h2
   ·rename_i e2;exact e1.trans e2.symm
   ·exact absurd h2 ((hq b h1).2.2.2 s')
  ·split at h2
   ·exact absurd h1 ((hq b h2).2.2.2 s)
   ·exact h.inj s s' b h1 h2
def qJ {b?:Option Nat} {z:Nat} {es:List (List AV)} {rv:Value} (h:z7 S A w b? z es rv) {σ':Nat->Option Nat} {d:Nat} (hσ:σ' d=b?) :
  VR S A σ' w (.lsl d z 0 es.length) rv∧wv S A σ' w d (.arr z es):=by
 obtain ⟨h0,⟨h1,rfl,rfl⟩ | ⟨b,cap,vs,el,h1,rfl,h2,h3,h4,h5,h6,h7⟩⟩:=h
 ·exact ⟨.lslnil (hσ.trans h1),h0,.inl ⟨hσ.trans h1,rfl⟩⟩
 ·refine ⟨.lsl (hσ.trans h1) h2 (fun _=>by simp) h4 (by simpa using h5) h3,h0,.inr ⟨b,vs,el,hσ.trans h1,h4,AH (Az _ h2) h5,h6,h7⟩⟩
def w9 {β:Nat->Option Nat} {us:Array Value} {d:Nat} (hβ:∀ i b,β i=some b->b < w.heap.size∧¬ A b∧(w0.heap.size<=b∨O b)) (aA:∀ i j b,β i=some b->β j=some b->i=j) :
  ∀ (rs:List AV) (i:Nat) {σ:Nat->Option Nat} {st:ASt} {ys:List AV} {aa:ASt},SRel S A0 O w0 A σ w st tm->(∀ (j:Nat) (x:AV),rs[j]? = some x->yA S A w (β (i+j)) x (us.getD (i+j) undef)) ->
   (∀ s b k,σ s=some b->i<=k->β k≠some b)->zbR d i rs st=some (ys,aa) ->
   ∃ σ',SRel S A0 O w0 A σ' w aa tm∧ys.length=rs.length∧(∀ (j:Nat) (y:AV),ys[j]? = some y->Got S A σ' w aa y (us.getD (i+j) undef))∧∀ s,st.hp s≠none->σ' s=σ s∧aa.hp s≠none
 | [],i,σ,st,ys,aa,h,_,_,hi=>by
  simp only[zbR,Option.some.injEq,Prod.mk.injEq] at hi;obtain ⟨rfl,rfl⟩:=hi;exact ⟨σ,h,rfl,by simp,fun s hs=>⟨rfl,hs⟩⟩
 | x :: r,i,σ,st,ys,aa,h,ha,hd,hi=>by
  have cR:∀ (j:Nat) (x:AV),r[j]? = some x->yA S A w (β (i+1+j)) x (us.getD (i+1+j) undef):=fun j y hj=>by
   have:=ha (j+1) y (by simpa using hj)
   rwa [show i+(j+1)=i+1+j by omega] at this
  have h0:=ha 0 x rfl;simp only[Bo] at h0;by_cases hx:∃ z es,x=.own z es
  ·obtain ⟨z,es,rfl⟩:=hx;simp only[zbR] at hi;split at hi
   ·rename_i bH iC hn aP;simp only[Option.some.injEq,Prod.mk.injEq] at hi;obtain ⟨rfl,rfl⟩:=hi;have fB:z7 S A w (β i) z es (us.getD i undef):=h0;obtain ⟨v1,v2⟩:=qJ fB (σ':=upd σ (d+10000 * (i+1)) (β i)) (zM _ _ _);have h1:=h.addSite hn (b?:=β i) (blk:=.arr z es) rfl v2 fun b hb=>⟨(hβ i b hb).1,(hβ i b hb).2.1,(hβ i b hb).2.2,fun s hs=>hd s b i hs (AO _) hb⟩;obtain ⟨σ',k1,k2,k3,k4⟩:=w9 hβ aA r (i+1) h1 cR (fun s b k hs hk hb=>by
     simp only[upd] at hs;split at hs
     ·have:=aA i k b hs hb;omega
     ·exact hd s b k hs (by omega) hb) aP
    obtain ⟨q1,q2⟩:=k4 (d+10000 * (i+1)) (by simp[ASt.setH,upd]);refine ⟨σ',k1,by simp[k2],fun j y hj => ?_,fun s hs => ?_⟩
    ·cases j with
     | zero =>
      simp at hj;subst hj;refine ⟨v1.mono (fun _ h=>h) (fun _ _=>rfl) fun s hs => ?_,fun s hs => ?_⟩
      ·rw[AV.refs,Ai] at hs;subst hs;exact ⟨q1,fun b cs el _ hb=>⟨cs,hb,rfl⟩⟩
      ·rw[AV.refs,Ai] at hs;subst hs;exact q2
     | succ j =>
      simp at hj;have:=k3 j y (by simpa using hj)
      rwa [show i+1+j=i+(j+1) by omega] at this
    ·have ah:s≠d+10000 * (i+1):=fun e=>hs (e ▸ hn);obtain ⟨e1,e2⟩:=k4 s (by simp[ASt.setH,upd,ah];exact hs);exact ⟨e1.trans (jC _ _ _ ah),e2⟩
   ·cases hi
  ·have fB:β i=none∧VR0 S A w x (us.getD i undef):=by
    cases x with
    | own z es=>exact absurd ⟨z,es,rfl⟩ hx
    | _=>exact h0
   have aQ:∃ bH,zbR d (i+1) r st=some (bH,aa)∧ys=x :: bH:=by
    cases x with
    | own z es=>exact absurd ⟨z,es,rfl⟩ hx
    | _ =>
     simp only[zbR] at hi;split at hi
     ·rename_i bH iC aP;simp only[Option.some.injEq,Prod.mk.injEq] at hi;obtain ⟨rfl,rfl⟩:=hi;exact ⟨_,aP,rfl⟩
     ·cases hi
   obtain ⟨bH,aP,rfl⟩:=aQ;obtain ⟨σ',k1,k2,k3,k4⟩:=w9 hβ aA r (i+1) h cR (fun s b k hs hk=>hd s b k hs (by omega)) aP;refine ⟨σ',k1,by simp[k2],fun j y hj => ?_,k4⟩;cases j with
   | zero =>simp at hj;subst hj;exact ⟨.of0 fB.2,fun s hs=>(q9 fB.2 s hs).elim⟩
   | succ j =>
    simp at hj;have:=k3 j y (by simpa using hj)
    rwa [show i+1+j=i+(j+1) by omega] at this
def kJ (hg:SRel S A0 O w0 A σ w st tm) {β:Nat->Option Nat} (hβ':∀ i b,β i=some b->b < w.heap.size∧¬ A b∧(w0.heap.size<=b∨O b)) (aA:∀ i j b,β i=some b->β j=some b->i=j)
  (ik:∀ s b k,σ s=some b->β k≠some b) {r:AV} {rv:Value} (hr:qY S A w β r rv) {d:Nat} (hi:imp d r st=some (v,aa)) :
  ∃ σ',SRel S A0 O w0 A σ' w aa tm∧Got S A σ' w aa v rv:=by
 have plain:VR0 S A w r rv->imp d r st=some (r,st)->∃ σ',SRel S A0 O w0 A σ' w aa tm∧Got S A σ' w aa v rv:=(by intro hv he;rw[he] at hi;simp only[Option.some.injEq,Prod.mk.injEq] at hi;obtain ⟨rfl,rfl⟩:=hi;exact ⟨_,hg,.of0 hv,fun s hs=>(q9 hv s hs).elim⟩);cases r with
 | own z es =>
  simp only[imp] at hi;split at hi
  ·rename_i hn;simp only[Option.some.injEq,Prod.mk.injEq] at hi;obtain ⟨rfl,rfl⟩:=hi;have bI:z7 S A w (β 0) z es rv:=hr;obtain ⟨v1,v2⟩:=qJ bI (σ':=upd σ d (β 0)) (zM _ _ _);exact ⟨_,hg.addSite hn (b?:=β 0) (blk:=.arr z es) rfl v2 fun b hb=>⟨(hβ' 0 b hb).1,(hβ' 0 b hb).2.1,(hβ' 0 b hb).2.2,fun s hs=>ik s b 0 hs hb⟩,v1,fun s hs=>by
    rw[AV.refs,Ai] at hs;subst hs;simp[ASt.setH,upd]⟩
  ·cases hi
 | tup rs =>
  obtain ⟨us,rfl,hl,ha⟩:=hr;simp only[imp] at hi;split at hi
  ·rename_i ys iC aP;simp only[Option.some.injEq,Prod.mk.injEq] at hi;obtain ⟨rfl,rfl⟩:=hi;obtain ⟨σ',k1,k2,k3,k4⟩:=w9 (us:=us) hβ' aA rs 0 hg (by simpa using ha) (fun s b k hs _=>ik s b k hs) aP;refine ⟨σ',k1,.tup (by omega) fun i x hx=>by simpa using (k3 i x hx).rel,fun s hs => ?_⟩;rw[AV.refs,zd] at hs;obtain ⟨x,hx,hs⟩:=hs;obtain ⟨i,hi⟩:=Ay.1 hx;exact (k3 i x hi).dang s hs
  ·cases hi
 | _=>unfold qY at hr;exact plain hr.2 rfl
def imp_sound (h:SRel S A0 O w0 A σ w st tm) {w':World} (hk:KeepO (fun _=>False) w w') {r:AV} {rv:Value} (hr:zgD S A w w' r rv) {d:Nat} (hi:imp d r st=some (v,aa)) :
  ∃ A' σ',SRel S A0 O w0 A' σ' w' aa tm∧Got S A' σ' w' aa v rv:=by
 obtain ⟨β,hβ,aA,hr⟩:=hr
 have hg:SRel S A0 O w0 (zI A β w w') σ w' st tm:=h.grow hk
  (fun b hb=>⟨.inl hb,AD (h.Alt b hb) hk.size,fun i e=>by have:=(hβ i b e).1;have:=h.Alt b hb;omega⟩) (fun b hb=>hb.1) (fun b hb=>hb.2.1)
 obtain ⟨σ',k⟩:=kJ hg (fun i b hb=>⟨(hβ i b hb).2,fun hh=>hh.2.2 i hb,.inl (AH h.keep.size (hβ i b hb).1)⟩) aA
  (fun s b k hs hb=>by have:=(h.dom s b hs).2.1;have:=(hβ k b hb).1;omega) hr hi
 exact ⟨_,σ',k⟩
def yk {hp:Nat->Option Blk}:∀ (i:Nat) (args:List AV),zG hp [] i args=zb (wx hp) args
 | _,[]=>rfl
 | i,x :: r=>by
  have:=yk (hp:=hp) (i+1) r;simp only[zG,zj,BJ,Ci,B9,Am,if_false,Bm,if_true,zb,this];cases wx hp x<;>cases zb (wx hp) r<;>rfl
def zbO:∀ (i:Nat) (args:List AV),zY [] i args=[]
 | _,[]=>rfl
 | i,x :: r=>by simp[zY,zj,zbO (i+1) r]
def qX:∀ (i:Nat) (args:List AV),zx [] i args=[]
 | _,[]=>rfl
 | i,x :: r=>by simp[zx,zj,qX (i+1) r]
def oz (h:SRel S A0 O w0 A σ w st tm) (jr:JR S A0 O w0) {args:List AV} {vs:Array Value} (hl:vs.size=args.length) (hg:∀ (i:Nat) (x:AV),args[i]? = some x->Got S A σ w st x (vs.getD i undef))
  {g f:Nat} (hf:qh g S.fns=some f) {frz:Bool} (hc:yP (za S) frz [] f args d st v aa) :
  Calls S.P g vs w fun e w'=>∃ rv A' σ' w1,e=.returned rv∧RebR S w0 w1∧JR S A0 O w1∧SRel S A0 O w1 A' σ' w' aa tm∧Got S A' σ' w' aa v rv:=by
 obtain ⟨ak,r,outs,st1,ai,p1,p2,aH,p4,⟨p7,p8,p5⟩,p6⟩:=hc;obtain rfl:outs=[]:=by simpa[jc] using p8
 rw[qX] at p5 p6;simp only[ASt.dropL,yW,Option.some.injEq] at p5;subst p5;simp only[impE] at p6;rw[yk] at p1;have fJ:zdw S g ak r:=(aH g hf).old fun x hx=>(by obtain ⟨i,hi⟩:=Ay.1 hx;obtain ⟨x0,_,aC⟩:=(zk p1).2 i x hi;exact jP aC);obtain ⟨a1,a2⟩:=zk p1;simp only[Bm,if_true] at p4;have sub:∀ {x0:AV} {j:Nat},args[j]? = some x0->∀ s∈x0.refs,s∈AV.refsL args:=fun hx s hs=>zd.2 ⟨_,Ae hx,hs⟩
 -- what is common
 have fin:∀ (A1:Nat->Prop) (σ1:Nat->Option Nat),SRel S A0 O w0 A1 σ1 w st1 tm->(∀ (i:Nat) (x:AV),ak[i]? = some x->VR0 S A1 w x (vs.getD i undef)) ->
   Calls S.P g vs w fun e w'=>∃ rv A' σ' w1,e=.returned rv∧RebR S w0 w1∧JR S A0 O w1∧SRel S A0 O w1 A' σ' w' aa tm∧Got S A' σ' w' aa v rv:=by
  intro A1 σ1 h1 ha;refine (fJ A1 w vs (by omega) ⟨h1.Alt,h1.inv⟩ (h1.jpreA jr) ha).mono fun e w' ⟨rv,he,hk,hj,hr⟩ => ?_;obtain ⟨q1,q2⟩:=h1.reb jr hk.size hj;obtain ⟨A',σ',k1,k2⟩:=imp_sound q1 hk.rebN hr.reb p6;exact ⟨rv,A',σ',_,he,wE,q2,k1,k2⟩
 unfold settle at p4;split at p4
 ·rename_i fR;simp only[Option.some.injEq] at p4;subst p4;by_cases fp:AV.refsL args=[]
  ·exact fin A σ h fun i x hi=>by
    obtain ⟨x0,az,aC⟩:=a2 i x hi;have lP:x0.refs=[]:=Ax.2 fun s hs=>by have:=sub az s hs;rw[fp] at this;cases this
    exact zcb h (fun _ h=>h) (hg i x0 az).rel aC fun s b hb hh=>by rw[lP] at hh;simp at hh
  ·have ft:r.plain=true:=fR.resolve_right fp;rw[imp_plain ft] at p6;simp only[Option.some.injEq,Prod.mk.injEq] at p6;obtain ⟨rfl,rfl⟩:=p6;refine (fJ (fun b=>A b∨∃ s,σ s=some b) w vs (by omega) ⟨fun b hb=>hb.elim (h.Alt b) fun ⟨s,hs⟩=>(h.dom s b hs).2.1,h.inv⟩ (h.jpre jr) fun i x hi => ?_).mono fun e w' ⟨rv,he,hk,hj,hr⟩ => ?_
   ·obtain ⟨x0,az,aC⟩:=a2 i x hi;exact zcb h (fun _ h=>.inl h) (hg i x0 az).rel aC fun s b hb _=>.inr ⟨s,hb⟩
   ·obtain ⟨q1,q2⟩:=h.reb jr hk.size hj;have gx:=q1.grow hk.rebN (fun _ h=>h) (fun _ h=>.inl h) (fun b hb=>AD (h.Alt b hb) hk.size);have hv:VR0 S A w' r rv:=by
     obtain ⟨β,_,_,hr⟩:=hr;cases r with
     | own z es=>simp[AV.plain] at ft
     | tup rs =>
      obtain ⟨us,rfl,hl,ha⟩:=hr;refine .tup hl fun i x hx => ?_;have cm:=Af.1 ft x (Ae hx);have ld:=ha i x hx;cases x with
      | own z es=>simp[AV.plain2] at cm
      | _=>exact zbf ld.2 cm
     | _=>exact zfF hr.2 ft
    exact ⟨rv,A,σ,_,he,wE,q2,gx,.of0 hv,fun s hs=>(q9 hv s hs).elim⟩
 ·split at p4
  ·rename_i fR kW;simp only[Option.some.injEq] at p4;subst p4;obtain ⟨A1,σ1,h1,m1,m2⟩:=h.freezeL (AV.refsL args) kW.2.2;have cC:∀ s∈AV.refsL args,zaY st.hp s=true:=fun s hs=>Af.1 kW.2.1 s hs;exact fin A1 σ1 h1 fun i x hi=>by
    obtain ⟨x0,az,aC⟩:=a2 i x hi;refine zcb h m1 (hg i x0 az).rel aC fun s b hb hh => ?_;rcases hh with hh | ⟨s',h1,h2⟩
    ·exact m2 s (sub az s hh) b (cC s (sub az s hh)) hb
    ·rw[cC s' (sub az s' h1)] at h2;cases h2
  ·cases p4
end
def qd (S : Seat) : Prop := ∀ g id, qh g S.fns = some id → ∃ fn, S.P.funcs[g]? = some fn ∧ fn.body.isSome = true ∧ (fn.name == "runtime.NumGoroutine") = false
def wC {S:Seat} (hS:qd S) {g id:Nat} (hg:qh g S.fns=some id) (args:Array Value) (w:World):(callFunc g args).run S.P w=.ok (.enter g args) w:=by
 obtain ⟨fn,h1,h2,h3⟩:=hS g id hg;cases hb:fn.body with
 | none=>rw[hb] at h2;cases h2
 | some c =>
  have gI : ¬ fn.name = "runtime.NumGoroutine" := by simpa using h3
  simp[callFunc,h1,gI,hb]
end
section
open Go Go.RowKit
section
variable {S:Seat} {A0:Nat->Prop} {O:Hnd} {w0:World} {A:Nat->Prop} {σ:Nat->Option Nat} {w:World} {st aa:ASt} {tm:Array Value} {df:List Deferred} {o:Oper} {v:AV} {d:Nat}
def zaQ (h:SRel S A0 O w0 A σ w st tm) {s z:Nat} {es:List (List AV)} {v:Value} (hv:VR S A σ w (.lsl s z 0 es.length) v) (hb:st.hp s=some (.arr z es)):z7 S A w (σ s) z es v:=by
 obtain ⟨b0,bb⟩:=h.hp s _ hb;refine ⟨b0, ?_⟩;rcases hv.lsl_inv with ⟨_,q2,q3,q4⟩ | ⟨b,o,cap,cs,el,e1,q0,q1,q2,q3,q4,q5⟩
 ·exact .inl ⟨q3,Bj.1 q2,by rw[q4]⟩
 ·rcases bb with ⟨m1,m2⟩ | ⟨b',an,bJ,m1,m2,m3,m4,m5⟩
  ·rw[m1] at q0;cases q0
  ·obtain rfl:b'=b:=Option.some.inj (m1.symm.trans q0);rw[q3] at m2;cases m2;have ho:o=0:=by have:=q2 (.inr rfl);omega
   subst ho;exact .inr ⟨b',cap,cs,el,q0,e1,q1,q5,q3,by simpa using q4,m4,m5⟩
def zbM {hp:Nat->Option Blk} {muts:List Nat} (hm:muts.isEmpty=false):∀ (i:Nat) (args ak:List AV),zG hp muts i args=some ak->ak.length=args.length∧∀ (j:Nat) (x':AV),ak[j]? = some x'->∃ x,args[j]? = some x ∧
  ((zj muts (i+j)=true∧∃ s z es,x=.lsl s z 0 (List.length es)∧hp s=some (.arr z es)∧x'=.own z es)∨(zj muts (i+j)=false∧((x.refs=[]∧x'=x)∨(zaM muts=true∧fnOk hp x=true∧wx hp x=some x'))))
 | _,[],ak,h=>by
  simp only[zG,Option.some.injEq] at h;subst h;exact ⟨rfl,by simp⟩
 | i,x :: r,ak,h=>by
  simp only[zG] at h;split at h
  ·rename_i y ys h1 h2;cases h;obtain ⟨k1,k2⟩:=zbM hm (i+1) r ys h2;refine ⟨by simp[k1],fun j x' hx => ?_⟩;cases j with
   | zero =>
    simp at hx;subst hx;refine ⟨x,rfl, ?_⟩;rw[Bo];cases hh:zj muts i with
    | true =>
     rw[if_pos hh] at h1;split at h1
     ·split at h1
      ·split at h1
       ·rename_i hc;obtain ⟨rfl,rfl⟩:=hc;cases h1;exact .inl ⟨rfl,_,_,_,rfl,by assumption,rfl⟩
       ·cases h1
      ·cases h1
     ·cases h1
    | false =>
     rw[hh,hm] at h1;simp only[Am,if_false] at h1;split at h1
     ·rename_i hr;cases h1;exact .inr ⟨rfl,.inl ⟨by simpa using hr,rfl⟩⟩
     ·split at h1
      ·rename_i hr;obtain ⟨q1,q2⟩:=Au.1 hr;exact .inr ⟨rfl,.inr ⟨q1,q2,h1⟩⟩
      ·cases h1
   | succ j =>
    simp only[AN] at hx ⊢;have:=k2 j x' hx
    rwa [show i+1+j=i+(j+1) by omega] at this
  ·cases h
def wI {muts:List Nat}:∀ (i:Nat) (args:List AV) (j s z o n:Nat),zj muts (i+j)=true->args[j]? = some (.lsl s z o n)->s∈zY muts i args
 | _,[],j,s,z,o,n,_,h=>by simp at h
 | i,x :: r,j,s,z,o,n,hh,h=>by
  simp only[zY,Ao];cases j with
  | zero =>simp at h;subst h;rw[Bo] at hh;rw[if_pos hh];exact .inl (by simp)
  | succ j =>refine .inr (wI (i+1) r j s z o n (by rwa [show i+1+j=i+(j+1) by omega]) (by simpa using h))
def jJ:∀ (a b:List Nat),zC (a++b)=true->zC b=true∧∀ s,s∈a->s∈b->False:=by
 intro a b
 induction a with
 | nil=>intro h;exact ⟨h,by simp⟩
 | cons x a ih =>
  intro h;simp only[As,zC,Ak,AJ,AP,decide_eq_false_iff_not,Ao] at h;obtain ⟨k1,k2⟩:=ih h.2;refine ⟨k1,fun s hs hb => ?_⟩;rcases Aq.1 hs with rfl | hs
  ·exact h.1 (.inr hb)
  ·exact k2 s hs hb
def wJ {muts:List Nat}:∀ (i:Nat) (args:List AV),zC (zY muts i args)=true->∀ (j k s z o n z' o' n':Nat),zj muts (i+j)=true->zj muts (i+k)=true->args[j]? = some (.lsl s z o n)->args[k]? = some (.lsl s z' o' n')->j=k
 | _,[],_,j,k,s,z,o,n,z',o',n',_,_,h,_=>by simp at h
 | i,x :: r,hn,j,k,s,z,o,n,z',o',n',hj,hk,h1,h2=>by
  simp only[zY] at hn;obtain ⟨n1,n2⟩:=jJ _ _ hn;have head:∀ (k z' o' n':Nat),zj muts i=true->x=.lsl s z o n->zj muts (i+(k+1))=true->r[k]? = some (.lsl s z' o' n')->False:=(by rintro k z' o' n' hi rfl hk hr;refine n2 s ?_ (wI (i+1) r k s z' o' n' (by rwa [show i+1+k=i+(k+1) by omega]) hr);rw[if_pos hi];simp);have jX:∀ (k z' o' n':Nat),zj muts i=true->x=.lsl s z' o' n'->zj muts (i+(k+1))=true->r[k]? = some (.lsl s z o n)->False:=(by rintro k z' o' n' hi rfl hk hr;refine n2 s ?_ (wI (i+1) r k s z o n (by rwa [show i+1+k=i+(k+1) by omega]) hr);rw[if_pos hi];simp);cases j with
  | zero =>
   cases k with
   | zero=>rfl
   | succ k =>simp only[BT,Option.some.injEq,AN] at h1 h2;exact (head k z' o' n' (by simpa using hj) h1 hk h2).elim
  | succ j =>
   cases k with
   | zero =>simp only[BT,Option.some.injEq,AN] at h1 h2;exact (jX j z' o' n' (by simpa using hk) h2 hj h1).elim
   | succ k =>simp only[AN] at h1 h2;rw[wJ (i+1) r n1 j k s z o n z' o' n' (by rwa [show i+1+j=i+(j+1) by omega]) (by rwa [show i+1+k=i+(k+1) by omega]) h1 h2]
def yu {muts:List Nat}:∀ (i:Nat) (args:List AV) (s:Nat),s∈zx muts i args↔∃ j z o n,args[j]? = some (.lsl s z o n)∧zj muts (i+j)=true∧muts.contains (i+j)=false
 | _,[],s=>by simp[zx]
 | i,x :: r,s=>by
  have ih:=yu (muts:=muts) (i+1) r s;simp only[zx,Ao,ih];constructor
  ·rintro (h | ⟨j,z,o,n,h1,h2,h3⟩)
   ·split at h
    ·rename_i hc;simp only[Ak,AJ] at hc;split at h
     ·simp at h;subst h;exact ⟨0,_,_,_,rfl,by simpa using hc.1,by simpa using hc.2⟩
     ·cases h
    ·cases h
   ·exact ⟨j+1,z,o,n,by simpa using h1,by rwa [show i+(j+1)=i+1+j by omega],by rwa [show i+(j+1)=i+1+j by omega]⟩
  ·rintro ⟨j,z,o,n,h1,h2,h3⟩;cases j with
   | zero =>simp at h1;subst h1;rw[Bo] at h2 h3;left;rw[if_pos (by simp only[h2,h3];rfl)];simp
   | succ j =>right;exact ⟨j,z,o,n,by simpa using h1,by rwa [show i+1+j=i+(j+1) by omega],by rwa [show i+1+j=i+(j+1) by omega]⟩
def drop_none {st:ASt} {s r:Nat} (h:st.hp s=none):(st.drop r).hp s=none:=by
 simp only[ASt.drop,ASt.setH,upd];split
 ·rfl
 ·simp[ASt.scrub,h]
def drop_arr {st:ASt} {s r:Nat} (ah:s≠r) {z:Nat} {es:List (List AV)} (h:st.hp s=some (.arr z es)):(st.drop r).hp s=some (.arr z es):=by simp only[ASt.drop,ASt.setH,upd,if_neg ah,ASt.scrub,h,AE,ws]
def oo:∀ (l:List Nat) {st:ASt} {s:Nat},st.hp s=none->(st.dropL l).hp s=none
 | [],_,_,h=>h
 | r :: l,st,s,h=>oo l (drop_none h)
def zgd:∀ (l:List Nat) {st:ASt} {s:Nat} {z:Nat} {es:List (List AV)},s ∉ l->st.hp s=some (.arr z es)->(st.dropL l).hp s=some (.arr z es)
 | [],_,_,_,_,_,h=>h
 | r :: l,st,s,z,es,hn,h=>zgd l (fun hm=>hn (Ad _ hm)) (drop_arr (fun e=>hn (by subst e;exact Ah)) h)
def oj:∀ (l:List Nat) {st:ASt} {s:Nat},s∈l->(st.dropL l).hp s=none
 | r :: l,st,s,h=>by
  by_cases e:s=r
  ·subst e;exact oo l (by simp[ASt.drop,ASt.setH,upd])
  ·exact oj l ((Aq.1 h).resolve_left e)
def SRel.dropSL:∀ (l:List Nat) {σ:Nat->Option Nat} {st:ASt},SRel S A0 O w0 A σ w st tm->zbk l=true->∃ σ',SRel S A0 O w0 A σ' w (st.dropL l) tm∧(∀ s,s∈l->σ' s=none)∧∀ s,s ∉ l->σ' s=σ s
 | [],σ,st,h,_=>⟨σ,h,by simp,fun _ _=>rfl⟩
 | r :: l,σ,st,h,hl=>by
  simp only[zbk,AR,Ak,AJ] at hl;obtain ⟨σ',k1,k2,k3⟩:=SRel.dropSL l (h.dropS hl.1) hl.2;refine ⟨σ',k1,fun s hs => ?_,fun s hs => ?_⟩
  ·by_cases e:s∈l
   ·exact k2 s e
   ·rw[k3 s e,if_pos ((Aq.1 hs).resolve_right e)]
  ·rw[k3 s (fun e=>hs (Ad _ e)),if_neg (fun (e:s=r)=>hs (by subst e;exact Ah))]
def zbH {args:List AV}:∀ (outs:bO) {st ai:ASt},yW args st outs=some ai->ai.fr=st.fr∧∀ s,(ai.hp s=st.hp s∧∀ i es z o n,(i,es)∈outs->args[i]?≠some (.lsl s z o n)) ∨
  ∃ i es z o n z0 bf,(i,es)∈outs∧args[i]? = some (.lsl s z o n)∧st.hp s=some (.arr z0 bf)∧ai.hp s=some (.arr z0 es)∧es.length=bf.length
 | [],st,ai,h=>by
  simp only[yW,Option.some.injEq] at h;subst h;exact ⟨rfl,fun s=>.inl ⟨rfl,by simp⟩⟩
 | (i,es) :: r,st,ai,h=>by
  simp only[yW] at h;split at h
  ·rename_i s0 z o n ha;split at h
   ·rename_i z0 bf hb;split at h
    ·rename_i hl;obtain ⟨k1,k2⟩:=zbH r h;refine ⟨k1,fun s => ?_⟩;by_cases e:s=s0
     ·subst e;have e1:(st.setH s (some (.arr z0 es))).hp s=some (.arr z0 es):=by simp[ASt.setH,upd]
      rcases k2 s with ⟨m1,m2⟩ | ⟨i',aX,z',o',n',z1,dz,m1,m2,m3,m4,m5⟩
      ·exact .inr ⟨i,es,z,o,n,z0,bf,by simp,ha,hb,m1.trans e1,hl⟩
      ·rw[e1] at m3;cases m3;exact .inr ⟨i',aX,z',o',n',z0,bf,Ad _ m1,m2,hb,m4,by omega⟩
     ·have e1:(st.setH s0 (some (.arr z0 es))).hp s=st.hp s:=by simp[ASt.setH,upd,e]
      rcases k2 s with ⟨m1,m2⟩ | ⟨i',aX,z',o',n',z1,dz,m1,m2,m3,m4,m5⟩
      ·refine .inl ⟨m1.trans e1,fun i' aX z' o' n' hm => ?_⟩;rcases Aq.1 hm with hm | hm
       ·cases hm;rw[ha];simp;intro e' _ _ _;exact absurd e'.symm e
       ·exact m2 i' aX z' o' n' hm
      ·exact .inr ⟨i',aX,z',o',n',z1,dz,Ad _ m1,m2,e1 ▸ m3,m4,m5⟩
    ·cases h
   ·cases h
  ·cases h
def SRel.after (h:SRel S A0 O w0 A σ w st tm) {w':World} {A' B:Nat->Prop} {ai:ASt} (hk:KeepO B w w') (gF:∀ b,A b->A' b∧¬ B b) (nD:∀ b,A' b->A b∨w.heap.size<=b∨B b) (nC:∀ b,A' b->b < w'.heap.size)
  (nA:∀ s b,σ s=some b->¬ A' b) (hB:∀ b,B b->w0.heap.size<=b∨O b) (cO:ai.fr=st.fr)
  (cV:∀ s,(ai.hp s=st.hp s∧∀ b,σ s=some b->¬ B b)∨∃ z es aX,st.hp s=some (.arr z es)∧ai.hp s=some (.arr z aX)∧aX.length=es.length∧wv S A' σ w' s (.arr z aX)∧dD σ σ w w' s) :
  SRel S A0 O w0 A' σ w' ai tm:=by
 have hA:∀ b,A b->w'.heap[b]? = w.heap[b]?:=fun b hb=>hk.block b (h.Alt b hb) (gF b hb).2;have cp:∀ s,dD σ σ w w' s:=fun s=>by
  rcases cV s with ⟨_,k2⟩ | ⟨_,_,_,_,_,_,_,k⟩
  ·exact ⟨rfl,fun b cs el hb hc=>⟨cs,by rw[hk.block b (h.dom s b hb).2.1 (k2 b hb)];exact hc,rfl⟩⟩
  ·exact k
 have mi:∀ s,st.hp s≠none->ai.hp s≠none:=fun s hs=>by
  rcases cV s with ⟨k1,_⟩ | ⟨_,_,_,_,k,_⟩
  ·rw[k1];exact hs
  ·rw[k];simp
 have lQ:∀ s cs,ai.hp s=some (.var cs)->st.hp s=some (.var cs):=fun s cs hs=>by
  rcases cV s with ⟨k1,_⟩ | ⟨_,_,_,_,k,_⟩
  ·rw[← k1];exact hs
  ·rw[k] at hs;cases hs
 refine ⟨fun k => ?_,fun s blk hb => ?_,fun k s hs => ?_,fun s cs hs s' ae => ?_,fun s b hs => ?_,h.inj,nC,fun b hb => ?_, ?_, ?_,h.Olt⟩
 ·rw[cO];exact (h.fr k).mono (fun b hb=>(gF b hb).1) hA fun s _=>cp s
 ·rcases cV s with ⟨k1,k2⟩ | ⟨z,es,aX,_,k2,_,k4,_⟩
  ·exact (h.hp s blk (k1 ▸ hb)).mono (fun b hb=>(gF b hb).1) hA rfl (fun b hb=>hk.block b (h.dom s b hb).2.1 (k2 b hb)) fun s' _=>cp s'
  ·rw[k2] at hb;cases hb;exact k4
 ·rw[cO] at hs;exact mi s (h.dang k s hs)
 ·exact mi s' (h.dangV s cs (lQ s cs hs) s' ae)
 ·obtain ⟨d1,d2,d3,d4⟩:=h.dom s b hs;exact ⟨mi s d1,AD d2 hk.size,nA s b hs,d4⟩
 ·rcases nD b hb with hb | hb | hb
  ·exact h.Asub b hb
  ·exact .inr (.inl (AH h.keep.size hb))
  ·exact .inr (hB b hb)
 ·refine ⟨hk.os.trans h.keep.os,hk.tape.trans h.keep.tape,hk.output.trans h.keep.output,AH h.keep.size hk.size,fun k bw hO => ?_⟩;rw[hk.block k (AD bw h.keep.size) (fun hb=>(hB k hb).elim (fun e=>by omega) hO)];exact h.keep.block k bw hO
 ·refine h.kp.of fun s _ _=>⟨cp s,fun z es he => ?_,fun cs he => ?_⟩
  ·rcases cV s with ⟨k1,_⟩ | ⟨z',dz,aX,k1,k2,k3,_⟩
   ·exact ⟨es,k1.trans he,rfl⟩
   ·rw[k1] at he;cases he;exact ⟨aX,k2,k3⟩
  ·rcases cV s with ⟨k1,_⟩ | ⟨z',dz,aX,k1,_⟩
   ·exact ⟨cs,k1.trans he⟩
   ·rw[k1] at he;cases he
def zgE.same {w1 w':World} {E:Nat->Prop} {args:List AV} {vs:Array Value} {ι:Nat->Option Nat} {outs:bO} {r:AV} {v:Value} (hs:w1.heap.size=w.heap.size) (hj:∀ i b,ι i=some b->w1.heap[b]? = w.heap[b]?) (h:zgE S A E (zbC S args ι vs w w' outs) w w' r v):zgE S A E (zbC S args ι vs w1 w' outs) w1 w' r v:=by
 obtain ⟨β,h1,h2,h3,h4⟩:=h;have e:zI (fun b=>A b∨E b) β w1 w'=zI (fun b=>A b∨E b) β w w':=by funext b;simp only[zI,hs]
 refine ⟨β,fun i b hb=>by rw[hs];exact h1 i b hb,h2, ?_,by rw[e];exact h4⟩;rw[e];intro i es z bf hm hx;obtain ⟨k1,k2,k3⟩:=h3 i es z bf hm hx;exact ⟨k1,k2,fun b cs el hb hc=>k3 b cs el hb (by rw[← hc,hj i b hb])⟩
def zgE.reb {w':World} {E:Nat->Prop} {args:List AV} {vs:Array Value} {ι:Nat->Option Nat} {outs:bO} {r:AV} {v:Value} (hj:∀ i b,ι i=some b->¬ S.jg b) (h:zgE S A E (zbC S args ι vs w w' outs) w w' r v):zgE S A E (zbC S args ι vs (w3 S w w') w' outs) (w3 S w w') w' r v :=
 h.same zF fun i b hb=>jG (hj i b hb)
def zdn {muts:List Nat}:∀ (i:Nat) (args:List AV) (j:Nat) (x:AV),args[j]? = some x->zj muts (i+j)=false->∀ s∈x.refs,s∈zaC muts i args
 | _,[],j,x,h,_,_,_=>by simp at h
 | i,y :: r,j,x,h,hh,s,hs=>by
  simp only[zaC,Ao];cases j with
  | zero =>simp at h;subst h;rw[Bo] at hh;rw[if_neg (by rw[hh];simp)];exact .inl hs
  | succ j=>exact .inr (zdn (i+1) r j x (by simpa using h) (by rwa [show i+1+j=i+(j+1) by omega]) s hs)
def zgN (h:SRel S A0 O w0 A σ w st tm) {B1:Nat->Prop} (hA:∀ b,A b->B1 b) (hV:∀ s b cs,σ s=some b->st.hp s=some (.var cs)->B1 b) {x y:AV} {v:Value} (hv:VR S A σ w x v) (hs:wx st.hp x=some y) (hk:fnOk st.hp x=true):VR0 S B1 w y v:=by
 cases x with
 | fn f caps =>
  simp only[wx] at hs;split at hs
  ·rename_i an aj;cases hs;obtain ⟨g,vs,rfl,k0,k1,k2⟩:=hv.fn_inv;obtain ⟨d1,d2⟩:=zk aj;refine .fn k0 (by omega) fun j x hj => ?_;obtain ⟨x0,az,aC⟩:=d2 j x hj;have hc:fh st.hp x0=true:=Af.1 hk x0 (Ae az);have e7:=k2 j x0 az;by_cases hp:∃ s off,x0=.pv s off
   ·obtain ⟨s,off,rfl⟩:=hp;simp only[fh] at hc;split at hc
    ·rename_i cs hb;simp only[qm,hb] at aC;split at aC
     ·rename_i ll mS;cases aC;obtain ⟨b,e,hσ⟩:=e7.pv_inv;rw[e];obtain ⟨b',us,el,m1,m2,m3,m4⟩:=h.hp _ _ hb;obtain rfl:b'=b:=Option.some.inj (m1.symm.trans hσ);obtain ⟨e1,e2⟩:=zk mS;have:=VR0.ep (S:=S) (A:=B1) (w:=w) (cs:=ll) (off:=off) (b:=b') (o:=0) (u:=fun j=>us.getD j undef) (hV s b' cs hσ hb) (fun j hj=>by
       have:j < us.size:=by omega
       simp[World.cell?,m2,this,Array.getD]) (fun j x hj=>by
       obtain ⟨x0,az,aC⟩:=e2 j x hj;have hr:x0.refs=[]:=by simpa using Af.1 hc x0 (Ae az)
       exact (yF h hA (m4 j x0 az) aC fun s' ae _ _=>by rw[hr] at ae;cases ae).1)
      simpa using this
     ·cases aC
    ·cases hc
   ·have hr:x0.refs=[]:=by
     cases x0 with
     | pv s off=>exact absurd ⟨s,off,rfl⟩ hp
     | _=>simpa[fh] using hc
    exact yE h hA e7 aC fun s b hb hh=>by rw[hr] at hh;simp at hh
  ·cases hs
 | _=>simp[fnOk] at hk
def zgE.less {w':World} {B1 E:Nat->Prop} {args:List AV} {vs:Array Value} {ι:Nat->Option Nat} {outs:bO} {r:AV} {v:Value} (h:zgE S B1 E (zbC S args ι vs w w' outs) w w' r v) (hp:r.plain=true) (ho:(outs.all fun p=>p.2.all fun e=>e.all AV.plain1)=true):zgE S A E (zbC S args ι vs w w' outs) w w' r v:=by
 obtain ⟨β,h1,h2,h3,h4⟩:=h;refine ⟨β,h1,h2,fun i es z bf hm hx => ?_, ?_⟩
 ·obtain ⟨k1,⟨q0,q1⟩,k3⟩:=h3 i es z bf hm hx;refine ⟨k1,⟨q0,q1.imp id ?_⟩,k3⟩;rintro ⟨b,cap,us,el,a1,a2,a3,a4,a5,a6,a7,a8⟩;refine ⟨b,cap,us,el,a1,a2,a3,a4,a5,a6,a7,fun i e c x hi hc=>yI (a8 i e c x hi hc) ?_⟩;have:=Af.1 (Af.1 ho _ hm) e (Ae hi);exact Af.1 this x (Ae hc)
 ·cases r with
  | own z es=>simp[AV.plain] at hp
  | tup rs =>
   obtain ⟨us,rfl,hl,ha⟩:=h4;refine ⟨us,rfl,hl,fun i x hx => ?_⟩;have cm:=Af.1 hp x (Ae hx);have ld:=ha i x hx;cases x with
   | own z es=>simp[AV.plain2] at cm
   | _=>exact ⟨ld.1,zbf ld.2 cm⟩
  | _=>exact ⟨h4.1,zfF h4.2 hp⟩
def zhA (h:SRel S A0 O w0 A σ w st tm) (jr:JR S A0 O w0) {args:List AV} {vs:Array Value} (hl:vs.size=args.length) (hg:∀ (i:Nat) (x:AV),args[i]? = some x->Got S A σ w st x (vs.getD i undef))
  {g f:Nat} (hf:qh g S.fns=some f) {frz:Bool} {muts:List Nat} (hm:muts.isEmpty=false) (hc:yP (za S) frz muts f args d st v aa) :
  Calls S.P g vs w fun e w'=>∃ rv A' σ' w1,e=.returned rv∧RebR S w0 w1∧JR S A0 O w1∧SRel S A0 O w1 A' σ' w' aa tm∧Got S A' σ' w' aa v rv:=by
 obtain ⟨ak,r,outs,st1,ai,p1,p2,aH,p4,⟨p79,p8,p5⟩,p6⟩:=hc;obtain ⟨p7,p9⟩:=Au.1 p79;obtain ⟨a1,a2⟩:=zbM hm 0 args ak p1;simp only[AL] at a2;rw[hm] at p4;simp only[Am,if_false,settle,or_true,if_true,Option.some.injEq] at p4;subst p4
 let ι:Nat->Option Nat:=fun i=>if zj muts i=true then (match args[i]? with | some (.lsl s _ _ _)=>σ s | _=>none) else none
 have ι1:∀ i b,ι i=some b->zj muts i=true∧∃ s z o n,args[i]? = some (.lsl s z o n)∧σ s=some b:=by
  intro i b hb;simp only[ι] at hb;split at hb
  ·rename_i hh;split at hb
   ·exact ⟨hh,_,_,_,_,by assumption,hb⟩
   ·cases hb
  ·cases hb
 have ι2:∀ i s z o n,zj muts i=true->args[i]? = some (.lsl s z o n)->ι i=σ s:=(by intro i s z o n hh hi;simp only[ι,if_pos hh,hi]);have same:∀ i j b,ι i=some b->ι j=some b->i=j:=(by intro i j b hi hj;obtain ⟨h1,s,z,o,n,h2,h3⟩:=ι1 i b hi;obtain ⟨dW,s',z',o',n',fA,gI⟩:=ι1 j b hj;obtain rfl:=h.inj s s' b h3 gI;exact wJ 0 args p2 i j s z o n z' o' n' (by simpa using h1) (by simpa using dW) h2 fA);have argQ:∀ (B1:Nat->Prop),(∀ b,A b->B1 b)->((zaM muts=true->zaC muts 0 args=[])∨∀ s b cs,σ s=some b->st.hp s=some (.var cs)->B1 b)->∀ (i:Nat) (x:AV),ak[i]? = some x->yA S B1 w (ι i) x (vs.getD i undef):=by
  intro B1 kt fy i x hx;obtain ⟨x0,az,⟨hh,s,z,es,rfl,hb,rfl⟩ | ⟨hh,⟨hr,rfl⟩ | ⟨lZ,hfn,gY⟩⟩⟩:=a2 i x hx
  ·rw[ι2 i _ _ _ _ hh az];exact (zaQ h (hg i _ az).rel hb).mono kt
  ·have:ι i=none:=by simp only[ι,hh];rfl
   rw[this];exact qM (((hg i _ az).rel.to0 hr).mono kt fun _ _=>rfl)
  ·have:ι i=none:=by simp only[ι,hh];rfl
   rw[this];refine qM ?_;rcases fy with fy | fy
   ·refine zcb h kt (hg i _ az).rel gY fun s b hb hs => ?_;have hr:x0.refs=[]:=Ax.2 fun s hs=>(by have:=zdn (muts:=muts) 0 args i x0 az (by simpa using hh) s hs;rw[fy lZ] at this;cases this);rw[hr] at hs;simp at hs
   ·exact zgN h kt fy (hg i _ az).rel gY hfn
 obtain ⟨B1,kt,fy,argR,less⟩:∃ B1:Nat->Prop,(∀ b,A b->B1 b)∧(∀ b,B1 b->A b∨∃ s cs,σ s=some b∧st.hp s=some (.var cs))∧(∀ (i:Nat) (x:AV),ak[i]? = some x->yA S B1 w (ι i) x (vs.getD i undef)) ∧
   ∀ w' rv,zgE S B1 (jO ι outs) (zbC S ak ι vs w w' outs) w w' r rv->zgE S A (jO ι outs) (zbC S ak ι vs w w' outs) w w' r rv:=by
  simp only[zaf,BS,AJ,Ak,Bt] at p9;rcases p9 with (p9 | p9) | p9
  ·exact ⟨A,fun _ h=>h,fun _ h=>.inl h,argQ A (fun _ h=>h) (.inl fun e=>by rw[p9] at e;cases e),fun _ _ h=>h⟩
  ·exact ⟨A,fun _ h=>h,fun _ h=>.inl h,argQ A (fun _ h=>h) (.inl fun _=>p9),fun _ _ h=>h⟩
  ·exact ⟨fun b=>A b∨∃ s cs,σ s=some b∧st.hp s=some (.var cs),fun _ h=>.inl h,fun _ h=>h,argQ _ (fun _ h=>.inl h) (.inr fun s b cs h1 h2=>.inr ⟨s,cs,h1,h2⟩),fun _ _ h=>h.less p9.1 p9.2⟩
 have nB:∀ i b,ι i=some b->¬ B1 b:=by
  intro i b hb hB;obtain ⟨hh,s,z,o,n,h2,h3⟩:=ι1 i b hb;rcases fy b hB with hA | ⟨s',cs,h4,h5⟩
  ·exact (h.dom s b h3).2.2.1 hA
  ·obtain rfl:=h.inj s s' b h3 h4;have hi:i < ak.length:=by rw[a1];exact (Aa.1 h2).1
   obtain ⟨x0,az,⟨_,s1,z1,dz,e1,cE,_⟩ | ⟨hn,_⟩⟩:=a2 i _ (Ac hi)
   ·rw[h2] at az;cases az;cases e1;rw[h5] at cE;cases cE
   ·rw[hh] at hn;cases hn
 have iZ:∀ i es,(i,es)∈outs->muts.contains i=true∧i < 1000:=by
  intro i es hi;have:i∈jc muts:=by rw[← p8];exact Ap.2 ⟨_,hi,rfl⟩
  simp only[jc,BF,Bz] at this;exact ⟨by simpa[AP] using this.1,this.2⟩
 have eS:∀ i,muts.contains i=true->i < 1000->∃ es,(i,es)∈outs:=by
  intro i h1 h2;have:i∈outs.map (·.1):=by rw[p8];simp only[jc,BF,Bz];exact ⟨by simpa[AP] using h1,h2⟩
  obtain ⟨⟨j,es⟩,h3,rfl⟩:=Ap.1 this;exact ⟨es,h3⟩
 have cT:∀ i,zj muts i=true->i < 1000:=(by intro i hi;simp only[zj,Ak,Bz] at hi;exact hi.1);obtain ⟨σ2,s1,s2,s3⟩:=SRel.dropSL (zx muts 0 args) h p7;obtain ⟨f1,f2⟩:=zbH outs p5;have hσ2:∀ s b,σ2 s=some b->σ s=some b∧s ∉ zx muts 0 args:=by
  intro s b hs;by_cases e:s∈zx muts 0 args
  ·rw[s2 s e] at hs;cases hs
  ·exact ⟨(s3 s e) ▸ hs,e⟩
 have mP:∀ b,jO ι outs b->∃ s,s∈zx muts 0 args∧σ s=some b:=by
  rintro b ⟨i,hi,hn⟩;obtain ⟨h1,s,z,o,n,h2,h3⟩:=ι1 i b hi;refine ⟨s,(yu 0 args s).2 ⟨i,z,o,n,h2,by simpa using h1, ?_⟩,h3⟩;cases hq:muts.contains (0+i) with
  | false=>rfl
  | true =>obtain ⟨es,he⟩:=eS i (by simpa using hq) (cT i h1);exact absurd he (hn es)
 refine (aH g hf B1 w vs ι (by omega) ⟨fun b hb=>(fy b hb).elim (h.Alt b) fun ⟨s,_,h1,_⟩=>(h.dom s b h1).2.1,h.inv⟩ ⟨fun i b hb => ?_,same⟩ ((h.jpre jr).mono (fun b hb=>(fy b hb).imp id fun ⟨s,_,h1,_⟩=>⟨s,h1⟩) (fun _ h=>h) |> fun jp=>⟨jp.jn,jp.lt,jp.na,fun b hb ⟨i,hi⟩=>by obtain ⟨_,s,_,_,_,_,h3⟩:=ι1 i b hi;exact (h.jpre jr).na b hb (.inr ⟨s,h3⟩),jp.ng⟩) argR).mono ?_
 ·obtain ⟨_,s,z,o,n,h2,h3⟩:=ι1 i b hb;obtain ⟨_,d2,d3,d4⟩:=h.dom s b h3;refine ⟨by rw[a1];exact (Aa.1 h2).1,d2,nB i b hb,fun p hp e => ?_⟩;rcases d4 with d4 | d4
  ·have:=h.Olt.2.2.lt p hp;omega
  ·exact h.Olt.2.1 p hp (e ▸ d4)
 rintro e w' ⟨rv,he,bw,hj,gD⟩;obtain ⟨h,fm⟩:=h.reb jr bw.size hj;obtain ⟨s1,_⟩:=s1.reb jr bw.size hj;have hk:=bw.reb;have hjA:∀ i b,ι i=some b->¬ S.jg b:=fun i b hi hb=>(by obtain ⟨_,s,_,_,_,_,h3⟩:=ι1 i b hi;exact (h.jpre fm).na b hb (.inr ⟨s,h3⟩));have gD:=zgE.reb hjA (less _ _ gD);have bu:RebR S w0 (w3 S w0 w'):=wE;generalize w3 S w0 w'=W0 at *;generalize w3 S w w'=W at *;obtain ⟨β,hβ,aA,hT,hp⟩:=gD;have oR:∀ s b,σ2 s=some b->¬ jO ι outs b:=(by intro s b hs hE;obtain ⟨s',q1,q2⟩:=mP b hE;obtain ⟨q3,q4⟩:=hσ2 s b hs;exact q4 (h.inj s s' b q3 q2 ▸ q1));have ny:∀ b,A b->¬ qI ι b:=(by rintro b hb ⟨i,hi⟩;obtain ⟨_,s,z,o,n,_,h3⟩:=ι1 i b hi;exact (h.dom s b h3).2.2.1 hb);have kr:∀ b,qI ι b->W0.heap.size<=b∨O b:=(by rintro b ⟨i,hi⟩;obtain ⟨_,s,z,o,n,_,h3⟩:=ι1 i b hi;exact (h.dom s b h3).2.2.2);have nv:∀ b,jO ι outs b->qI ι b:=fun b ⟨i,hi,_⟩=>⟨i,hi⟩;have hrel:SRel S A0 O W0 (zI (fun b=>A b∨jO ι outs b) β W w') σ2 w' ai tm:=by
  refine s1.after hk (fun b hb=>⟨⟨.inl (.inl hb),AD (h.Alt b hb) hk.size,fun i e => ?_⟩,ny b hb⟩) (fun b hb => ?_) (fun b hb=>hb.2.1) (fun s b hs hb => ?_) kr f1 fun s => ?_
  ·rcases (hβ i b e).1 with q | q
   ·have:=h.Alt b hb;omega
   ·exact ny b hb (nv b q)
  ·rcases hb.1 with (q | q) | q
   ·exact .inl q
   ·exact .inr (.inr (nv b q))
   ·exact .inr (.inl q)
  ·rcases hb.1 with (q | q) | q
   ·exact (s1.dom s b hs).2.2.1 q
   ·exact oR s b hs q
   ·have:=(s1.dom s b hs).2.1;omega
  ·rcases f2 s with ⟨q1,q2⟩ | ⟨i,es,z,o,n,z0,bf,q1,q2,q3,q4,q5⟩
   ·refine .inl ⟨q1,fun b hb ⟨i,hi⟩ => ?_⟩;obtain ⟨q3,q4⟩:=hσ2 s b hb;obtain ⟨q5,s',z,o,n,q6,q7⟩:=ι1 i b hi;obtain rfl:=h.inj s s' b q3 q7;cases hq:muts.contains i with
    | true =>obtain ⟨es,he⟩:=eS i hq (cT i q5);exact q2 i es z o n he q6
    | false=>exact q4 ((yu 0 args s).2 ⟨i,z,o,n,q6,by simpa using q5,by simpa using hq⟩)
   ·obtain ⟨m1,m2⟩:=iZ i es q1;have hh:zj muts i=true:=by simp only[zj,m1,CF,Ce,Bz];exact m2
    have aQ:i < ak.length:=by rw[a1];exact (Aa.1 q2).1
    have hx:=Ac aQ;obtain ⟨x0,az,⟨_,s',z',aX,e1,ay,e2⟩ | ⟨o7,_⟩⟩:=a2 i _ hx
    ·rw[q2] at az;cases az;cases e1;have ah:s ∉ zx muts 0 args:=fun gr=>(by obtain ⟨j,z1,o1,n1,j1,j2,j3⟩:=(yu 0 args s).1 gr;have:=wJ 0 args p2 i j s _ _ _ z1 o1 n1 (by simpa using hh) j2 q2 j1;subst this;simp only[AL] at j3;rw[m1] at j3;cases j3);have hd:=zgd (zx muts 0 args) ah ay;rw[q3] at hd;cases hd;obtain ⟨t1,t2,t3⟩:=hT i es _ bf q1 (by rw[hx,e2]);have hι:ι i=σ2 s:=(ι2 i _ _ _ _ hh q2).trans (s3 s ah).symm;refine .inr ⟨_,bf,es,q3,q4,t1, ?_,rfl,fun b cs el hb aj=>t3 b cs el (hι.trans hb) aj⟩;exact (qJ t2 hι.symm).2
    ·rw[hh] at o7;cases o7
 have hβ':∀ i b,β i=some b->b < w'.heap.size∧¬ zI (fun b=>A b∨jO ι outs b) β W w' b∧(W0.heap.size<=b∨O b):=by
  intro i b hb;refine ⟨(hβ i b hb).2,fun hh=>hh.2.2 i hb, ?_⟩;rcases (hβ i b hb).1 with q | q
  ·exact .inl (AH h.keep.size q)
  ·exact kr b (nv b q)
 have ik:∀ s b k,σ2 s=some b->β k≠some b:=by
  intro s b k hs hb;rcases (hβ k b hb).1 with q | q
  ·have:=(s1.dom s b hs).2.1;omega
  ·exact oR s b hs q
 -- the answer
 cases heq:zx muts 0 args with
 | nil =>rw[heq] at p6;simp only[impE] at p6;obtain ⟨σ',k⟩:=kJ hrel hβ' aA ik hp p6;exact ⟨rv,_,σ',_,he,bu,fm,k⟩
 | cons s0 rest =>
  rw[heq] at p6
  have put:∀ (z:Nat) (es:List (List AV)) (u:Value) (i:Nat),ai.hp s0=none->z7 S (zI (fun b=>A b∨jO ι outs b) β W w') w' (β i) z es u ->
    SRel S A0 O W0 (zI (fun b=>A b∨jO ι outs b) β W w') (upd σ2 s0 (β i)) w' (ai.setH s0 (some (.arr z es))) tm∧VR S (zI (fun b=>A b∨jO ι outs b) β W w') (upd σ2 s0 (β i)) w' (.lsl s0 z 0 es.length) u:=by
   intro z es u i hn ho;obtain ⟨v1,v2⟩:=qJ ho (σ':=upd σ2 s0 (β i)) (zM _ _ _);exact ⟨hrel.addSite hn (b?:=β i) (blk:=.arr z es) rfl v2 fun b hb=>⟨(hβ' i b hb).1,(hβ' i b hb).2.1,(hβ' i b hb).2.2,fun s hs=>ik s b i hs hb⟩,v1⟩
  have plain:fV r=true->(v,aa)=(r,ai)->∃ rv A' σ' w1,e=.returned rv∧RebR S w0 w1∧JR S A0 O w1∧SRel S A0 O w1 A' σ' w' aa tm∧Got S A' σ' w' aa v rv:=(by intro bC e1;cases e1;have p6':=kK bC d aa;obtain ⟨σ',k⟩:=kJ hrel hβ' aA ik hp p6';exact ⟨rv,_,σ',_,he,bu,fm,k⟩);unfold impE at p6;split at p6
  ·rename_i hq;cases hq
  ·rename_i fG oF hq;cases hq;split at p6
   ·rename_i z es;split at p6
    ·rename_i hn;simp only[Option.some.injEq,Prod.mk.injEq] at p6;obtain ⟨rfl,rfl⟩:=p6;obtain ⟨k1,k2⟩:=put z es rv 0 hn hp;exact ⟨rv,_,_,_,he,bu,fm,k1,k2,fun s hs=>by rw[AV.refs,Ai] at hs;subst hs;simp[ASt.setH,upd]⟩
    ·cases p6
   ·rename_i z es gP;split at p6
    ·rename_i hn;split at p6
     ·rename_i hall;simp only[Option.some.injEq,Prod.mk.injEq] at p6;obtain ⟨rfl,rfl⟩:=p6;obtain ⟨us,rfl,hlen,bh⟩:=hp;obtain ⟨k1,k2⟩:=put z es (us.getD 0 undef) 0 hn (bh 0 _ rfl);have rest:∀ (i:Nat) (x:AV),gP[i]? = some x->VR0 S (zI (fun b=>A b∨jO ι outs b) β W w') w' x (us.getD (i+1) undef):=fun i x hx =>
       (wn (bh (i+1) x (by simpa using hx)) (by simpa using Af.1 hall x (Ae hx))).2
      refine ⟨_,_,_,_,he,bu,fm,k1,.tup (by simpa using hlen) fun i x hx => ?_,fun s hs => ?_⟩
      ·cases i with
       | zero=>simp at hx;subst hx;exact k2
       | succ i=>exact .of0 (rest i x (by simpa using hx))
      ·rw[AV.refs,zd] at hs;obtain ⟨x,hx,hs⟩:=hs;rcases Aq.1 hx with rfl | hx
       ·rw[AV.refs,Ai] at hs;subst hs;simp[ASt.setH,upd]
       ·obtain ⟨i,hi⟩:=Ay.1 hx;exact (q9 (rest i x hi) s hs).elim
     ·cases p6
    ·cases p6
   ·split at p6
    ·rename_i bC;exact plain bC (Option.some.inj p6).symm
    ·cases p6
end
end
section
open Go Go.RowKit
section
variable {S:Seat} {A0:Nat->Prop} {O:Hnd} {w0:World} {A:Nat->Prop} {σ:Nat->Option Nat} {w:World} {st aa:ASt} {tm:Array Value} {v:AV} {d:Nat}
def SRel.setVar (h:SRel S A0 O w0 A σ w st tm) {s b:Nat} (hσ:σ s=some b) {ob:Array Value} {el:TypeId} (hb:w.heap[b]? = some (.cells ob el (0,0))) {bo cs:List AV} (hs:st.hp s=some (.var bo)) (hl:cs.length<=ob.size)
  (hc:∀ (i:Nat) (x:AV),cs[i]? = some x->Got S A σ w st x (ob.getD i undef)):SRel S A0 O w0 A σ w (st.setH s (some (.var cs))) tm:=by
 have nn:∀ s',st.hp s'≠none->(st.setH s (some (.var cs))).hp s'≠none:=fun s' h=>by
  simp only[ASt.setH,upd];split
  ·simp
  ·exact h
 refine ⟨h.fr,fun s' blk ay => ?_,fun k s' ae=>nn s' (h.dang k s' ae),fun s' an ae bQ aW=>nn bQ ?_,fun s' b' ae=>⟨nn s' (h.dom s' b' ae).1,(h.dom s' b' ae).2⟩,h.inj,h.Alt,h.Asub,h.keep,
  h.kp.same (fun _ _=>⟨rfl,fun _ cs _ _ hb=>⟨cs,hb,rfl⟩⟩) (fun s' z es he _ => ?_) fun s' an he => ?_,h.Olt⟩
 ·simp only[ASt.setH,upd] at ay;split at ay
  ·rename_i e;subst e;cases ay;exact ⟨b,ob,el,hσ,hb,hl,fun i x hx=>(hc i x hx).rel⟩
  ·exact h.hp s' blk ay
 ·simp only[ASt.setH,upd] at ae;split at ae
  ·cases ae;obtain ⟨x,hx,b9⟩:=zd.1 aW;obtain ⟨i,hi⟩:=Ay.1 hx;exact (hc i x hi).dang bQ b9
  ·exact h.dangV s' an ae bQ aW
 ·have ah:s'≠s:=fun e=>by rw[e,hs] at he;cases he
  simp only[ASt.setH,upd,if_neg ah];exact he
 ·simp only[ASt.setH,upd];split
  ·exact ⟨_,rfl⟩
  ·exact ⟨_,he⟩
def zaq {γ:Nat->Option Nat} {ob:Array Value} {s:Nat} (hγ:∀ i b,γ i=some b->b < w.heap.size∧¬ A b∧(w0.heap.size<=b∨O b)) (aA:∀ i j b,γ i=some b->γ j=some b->i=j) :
  ∀ (cs:List AV) (i:Nat) {σ:Nat->Option Nat} {st aa:ASt},SRel S A0 O w0 A σ w st tm->(∀ (j:Nat) (x:AV),cs[j]? = some x->yA S A w (γ (i+j)) x (ob.getD (i+j) undef)) ->
   (∀ s b k,σ s=some b->i<=k->γ k≠some b)->zbj s i cs st=some aa ->
   ∃ σ',SRel S A0 O w0 A σ' w aa tm∧(jI s i cs).length=cs.length∧(∀ (j:Nat) (y:AV),(jI s i cs)[j]? = some y->Got S A σ' w aa y (ob.getD (i+j) undef))∧(∀ s,st.hp s≠none->σ' s=σ s∧aa.hp s=st.hp s)∧∀ s b,σ' s=some b->σ s=some b∨∃ j,γ j=some b
 | [],i,σ,st,aa,h,_,_,hi=>by
  simp only[zbj,Option.some.injEq] at hi;subst hi;exact ⟨σ,h,rfl,by simp[jI],fun s hs=>⟨rfl,rfl⟩,fun _ _ h=>.inl h⟩
 | x :: r,i,σ,st,aa,h,ha,hd,hi=>by
  have cR:∀ (j:Nat) (x:AV),r[j]? = some x->yA S A w (γ (i+1+j)) x (ob.getD (i+1+j) undef):=fun j y hj=>by
   have:=ha (j+1) y (by simpa using hj)
   rwa [show i+(j+1)=i+1+j by omega] at this
  have h0:=ha 0 x rfl;simp only[Bo] at h0;by_cases hx:∃ z es,x=.own z es
  ·obtain ⟨z,es,rfl⟩:=hx;simp only[zbj] at hi;split at hi
   ·rename_i hn;have fB:z7 S A w (γ i) z es (ob.getD i undef):=h0;obtain ⟨v1,v2⟩:=qJ fB (σ':=upd σ (inS s i) (γ i)) (zM _ _ _);have h1:=h.addSite hn (b?:=γ i) (blk:=.arr z es) rfl v2 fun b hb=>⟨(hγ i b hb).1,(hγ i b hb).2.1,(hγ i b hb).2.2,fun s hs=>hd s b i hs (AO _) hb⟩;obtain ⟨σ',k1,k2,k3,k4,k5⟩:=zaq hγ aA r (i+1) h1 cR (fun s b k hs hk hb=>by
     simp only[upd] at hs;split at hs
     ·have:=aA i k b hs hb;omega
     ·exact hd s b k hs (by omega) hb) hi
    obtain ⟨q1,q2⟩:=k4 (inS s i) (by simp[ASt.setH,upd]);refine ⟨σ',k1,by simp[jI,k2],fun j y hj => ?_,fun s' hs => ?_,fun s' b hs => ?_⟩
    ·simp only[jI] at hj;cases j with
     | zero =>
      simp at hj;subst hj;refine ⟨v1.mono (fun _ h=>h) (fun _ _=>rfl) fun s hs => ?_,fun s hs => ?_⟩
      ·rw[AV.refs,Ai] at hs;subst hs;exact ⟨q1,fun b cs el _ hb=>⟨cs,hb,rfl⟩⟩
      ·rw[AV.refs,Ai] at hs;subst hs;rw[q2];simp[ASt.setH,upd]
     | succ j =>
      have:=k3 j y (by simpa using hj)
      rwa [show i+1+j=i+(j+1) by omega] at this
    ·have ah:s'≠inS s i:=fun e=>hs (e ▸ hn);obtain ⟨e1,e2⟩:=k4 s' (by simp[ASt.setH,upd,ah];exact hs);exact ⟨e1.trans (jC _ _ _ ah),e2.trans (by simp[ASt.setH,upd,ah])⟩
    ·rcases k5 s' b hs with hs | hs
     ·simp only[upd] at hs;split at hs
      ·exact .inr ⟨i,hs⟩
      ·exact .inl hs
     ·exact .inr hs
   ·cases hi
  ·have fB:γ i=none∧VR0 S A w x (ob.getD i undef):=by
    cases x with
    | own z es=>exact absurd ⟨z,es,rfl⟩ hx
    | _=>exact h0
   have e1:jI s i (x :: r)=x :: jI s (i+1) r:=by
    cases x with
    | own z es=>exact absurd ⟨z,es,rfl⟩ hx
    | _=>rfl
   have aQ:zbj s (i+1) r st=some aa:=by
    cases x with
    | own z es=>exact absurd ⟨z,es,rfl⟩ hx
    | _=>exact hi
   obtain ⟨σ',k1,k2,k3,k4,k5⟩:=zaq hγ aA r (i+1) h cR (fun s b k hs hk=>hd s b k hs (by omega)) aQ;refine ⟨σ',k1,by rw[e1];simp[k2],fun j y hj => ?_,k4,k5⟩;rw[e1] at hj;cases j with
   | zero =>simp at hj;subst hj;exact ⟨.of0 fB.2,fun s hs=>(q9 fB.2 s hs).elim⟩
   | succ j =>
    have:=k3 j y (by simpa using hj)
    rwa [show i+1+j=i+(j+1) by omega] at this
def zbK (h:SRel S A0 O w0 A σ w (st.setH d (some (.var []))) tm) {b m:Nat} {el:TypeId} {γ:Nat->Option Nat} {cs:List AV} (hσ:σ d=some b) (ho:zjj S A w b γ cs el m)
  (hγ:∀ i b,γ i=some b->b < w.heap.size∧¬ A b∧(w0.heap.size<=b∨O b)) (aA:∀ i j b,γ i=some b->γ j=some b->i=j) (hd:∀ s b k,σ s=some b->γ k≠some b) (hp:putObj d cs st=some aa) :
  ∃ σ',SRel S A0 O w0 A σ' w aa tm∧σ' d=some b∧aa.hp d≠none∧∀ s b,σ' s=some b->σ s=some b∨∃ j,γ j=some b:=by
 obtain ⟨ob,h1,h2,h3,h4⟩:=ho;simp only[putObj,Ag] at hp;obtain ⟨st1,hp,rfl⟩:=hp;obtain ⟨σ',k1,k2,k3,k4,k5⟩:=zaq (ob:=ob) hγ aA cs 0 h (by simpa using h4) (fun s b k hs _=>hd s b k hs) hp;have hdd:(st.setH d (some (.var []))).hp d=some (.var []):=by simp[ASt.setH,upd]
 obtain ⟨q1,q2⟩:=k4 d (by rw[hdd];simp);exact ⟨σ',k1.setVar (q1.trans hσ) h1 (q2.trans hdd) (by omega) (by simpa using k3),q1.trans hσ,by simp[ASt.setH,upd],k5⟩
def SRel.afterV (h:SRel S A0 O w0 A σ w st tm) {w':World} {A' B:Nat->Prop} {s b m:Nat} {el:TypeId} {ch:List AV} (hk:KeepO B w w') (gF:∀ b,A b->A' b∧¬ B b) (nD:∀ b,A' b->A b∨w.heap.size<=b∨B b) (nC:∀ b,A' b->b < w'.heap.size)
  (nA:∀ s b,σ s=some b->¬ A' b) (hB:∀ b,B b->w0.heap.size<=b∨O b) (hσ:σ s=some b) (hs:st.hp s=some (.var ch)) (hn:∀ s' b',σ s'=some b'->s'≠s->¬ B b') {ob gT:Array Value}
  (h1:w.heap[b]? = some (.cells ob el (0,0))) (h2:ob.size=m) (h3:w'.heap[b]? = some (.cells gT el (0,0))) (h4:gT.size=m):SRel S A0 O w0 A' σ w' (st.setH s (some (.var []))) tm:=by
 have hA:∀ b,A b->w'.heap[b]? = w.heap[b]?:=fun b hb=>hk.block b (h.Alt b hb) (gF b hb).2;have cp:∀ s',dD σ σ w w' s':=fun s'=>⟨rfl,fun c us bJ hc lT=>by
  by_cases e:s'=s
  ·subst e;obtain rfl:c=b:=Option.some.inj (hc.symm.trans hσ);rw[h1] at lT;cases lT;exact ⟨gT,h3,by omega⟩
  ·exact ⟨us,by rw[hk.block c (h.dom s' c hc).2.1 (hn s' c hc e)];exact lT,rfl⟩⟩
 have nn:∀ s',st.hp s'≠none->(st.setH s (some (.var []))).hp s'≠none:=fun s' h=>by
  simp only[ASt.setH,upd];split
  ·simp
  ·exact h
 refine ⟨fun k=>(h.fr k).mono (fun b hb=>(gF b hb).1) hA fun s' _=>cp s',fun s' blk hb => ?_,fun k s' ae=>nn s' (h.dang k s' ae),fun s' cs ae bQ aW=>nn bQ ?_,fun s' b' ae => ?_,h.inj,nC,fun b hb => ?_, ?_, ?_,h.Olt⟩
 ·simp only[ASt.setH,upd] at hb;split at hb
  ·rename_i e;subst e;cases hb;exact ⟨b,gT,el,hσ,h3,by simp,by simp⟩
  ·rename_i ah;exact (h.hp s' blk hb).mono (fun b hb=>(gF b hb).1) hA rfl (fun c hc=>hk.block c (h.dom s' c hc).2.1 (hn s' c hc ah)) fun bQ _=>cp bQ
 ·simp only[ASt.setH,upd] at ae;split at ae
  ·cases ae;cases aW
  ·exact h.dangV s' cs ae bQ aW
 ·obtain ⟨d1,d2,d3,d4⟩:=h.dom s' b' ae;exact ⟨nn s' d1,AD d2 hk.size,nA s' b' ae,d4⟩
 ·rcases nD b hb with hb | hb | hb
  ·exact h.Asub b hb
  ·exact .inr (.inl (AH h.keep.size hb))
  ·exact .inr (hB b hb)
 ·refine ⟨hk.os.trans h.keep.os,hk.tape.trans h.keep.tape,hk.output.trans h.keep.output,AH h.keep.size hk.size,fun k bw hO => ?_⟩;rw[hk.block k (AD bw h.keep.size) (fun hb=>(hB k hb).elim (fun e=>by omega) hO)];exact h.keep.block k bw hO
 ·refine h.kp.of fun s' _ _=>⟨cp s',fun z es he=>⟨es, ?_,rfl⟩,fun cs he => ?_⟩
  ·have ah:s'≠s:=fun e=>by rw[e,hs] at he;cases he
   simp only[ASt.setH,upd,if_neg ah];exact he
  ·simp only[ASt.setH,upd];split
   ·exact ⟨_,rfl⟩
   ·exact ⟨_,he⟩
def zgc:∀ (l:List Nat) {st:ASt} {s:Nat} {cs:List AV},s ∉ l->st.hp s=some (.var cs)->∃ an,(st.dropL l).hp s=some (.var an)
 | [],_,_,cs,_,h=>⟨cs,h⟩
 | r :: l,st,s,cs,hn,h=>zgc l (cs:=cs.map (scrub r)) (fun hm=>hn (Ad _ hm)) (by
     have:s≠r:=fun e=>hn (by subst e;exact Ah);simp only[ASt.drop,ASt.setH,upd,if_neg this,ASt.scrub,h,AE,ws])
def yt {st:ASt} {x y:AV} (h:zS st x=some y):(∃ s z es,x=.lsl s z 0 (List.length es)∧st.hp s=some (.arr z es)∧y=.own z es)∨(x.refs=[]∧y=x):=by
 by_cases hl:∃ s z n,x=.lsl s z 0 n
 ·obtain ⟨s,z,n,rfl⟩:=hl;simp only[zS] at h;split at h
  ·rename_i z' es hb;split at h
   ·rename_i hc;obtain ⟨rfl,rfl,_⟩:=hc;cases h;exact .inl ⟨s,z,es,rfl,hb,rfl⟩
   ·cases h
  ·cases h
 ·have:(if x.refs.isEmpty then some x else none)=some y:=by
   cases x with
   | lsl s z off n =>
    cases off with
    | zero=>exact absurd ⟨_,_,_,rfl⟩ hl
    | succ off=>exact h
   | _=>exact h
  split at this
  ·rename_i hr;exact .inr ⟨by simpa using hr,(Option.some.inj this).symm⟩
  ·cases this
def zcd:∀ (l:List AV) (i j:Nat) (x y:AV) (s:Nat),zC (AV.refsL l)=true->l[i]? = some x->l[j]? = some y->s∈x.refs->s∈y.refs->i=j
 | [],i,j,x,y,s,_,h,_,_,_=>by simp at h
 | a :: r,i,j,x,y,s,hn,hi,hj,hx,hy=>by
  rw[AV.refsL] at hn;obtain ⟨k1,k2⟩:=jJ _ _ hn;cases i with
  | zero =>
   cases j with
   | zero=>rfl
   | succ j =>simp at hi hj;subst hi;exact (k2 s hx (zd.2 ⟨y,Ae hj,hy⟩)).elim
  | succ i =>
   cases j with
   | zero =>simp at hi hj;subst hj;exact (k2 s hy (zd.2 ⟨x,Ae hi,hx⟩)).elim
   | succ j =>simp at hi hj;rw[zcd r i j x y s k1 hi hj hx hy]
def zhy (h:SRel S A0 O w0 A σ w st tm) (jr:JR S A0 O w0) {args:List AV} {vs:Array Value} (hl:vs.size=args.length) (hg:∀ (i:Nat) (x:AV),args[i]? = some x->Got S A σ w st x (vs.getD i undef))
  {g f:Nat} (hf:qh g S.fns=some f) (hc:CallO (za S) f args d st v aa) :
  Calls S.P g vs w fun e w'=>∃ rv A' σ' w1,e=.returned rv∧RebR S w0 w1∧JR S A0 O w1∧SRel S A0 O w1 A' σ' w' aa tm∧Got S A' σ' w' aa v rv:=by
 obtain ⟨s,vals,bo,cs,r,an,ai,rfl,hs,aj,⟨hnd,mj⟩,eF,aH,gk,himp⟩:=hc;obtain ⟨b,e7,hσ⟩:=(hg 0 _ rfl).rel.pv_inv;obtain ⟨b',ob,el,k1,k2,k3,k4⟩:=h.hp s _ hs;obtain rfl:b'=b:=Option.some.inj (k1.symm.trans hσ);obtain ⟨c1,c2⟩:=zk aj
 let ι:Nat->Option Nat:=fun j=>match bo[j]? with | some (.lsl s' _ _ _)=>σ s' | _=>none
 have ι1:∀ i c,ι i=some c->∃ s' z o n,bo[i]? = some (.lsl s' z o n)∧σ s'=some c∧s'∈AV.refsL bo:=by
  intro i c hi;simp only[ι] at hi;split at hi
  ·rename_i s' z o n hx;exact ⟨s',z,o,n,hx,hi,zd.2 ⟨_,Ae hx,by simp[AV.refs]⟩⟩
  ·cases hi
 have arrs:∀ s'∈AV.refsL bo,∃ z es,st.hp s'=some (.arr z es):=by
  intro s' ae;obtain ⟨x,hx,b9⟩:=zd.1 ae;obtain ⟨i,hi⟩:=Ay.1 hx;have aq:i < cs.length:=by have:=(Aa.1 hi).1;omega
  obtain ⟨x0,az,aC⟩:=c2 i _ (Ac aq);rw[hi] at az;cases az;rcases yt aC with ⟨bQ,z,es,rfl,hb,_⟩ | ⟨hr,_⟩
  ·simp only[AV.refs,Ai] at b9;subst b9;exact ⟨z,es,hb⟩
  ·rw[hr] at b9;cases b9
 have gY:s ∉ AV.refsL bo:=fun hm=>by obtain ⟨z,es,e⟩:=arrs s hm;rw[hs] at e;cases e
 have foot:FootOk S A w b' ι:=by
  refine ⟨fun c hc => ?_,fun i hi => ?_,fun i j c hi hj => ?_⟩
  ·have:∃ s',σ s'=some c:=by
    rcases hc with rfl | ⟨i,hi⟩
    ·exact ⟨s,hσ⟩
    ·obtain ⟨s',_,_,_,_,h2,_⟩:=ι1 i c hi;exact ⟨s',h2⟩
   obtain ⟨s',ae⟩:=this;obtain ⟨_,d2,d3,d4⟩:=h.dom s' c ae;refine ⟨d2,d3,fun p hp e => ?_⟩;rcases d4 with d4 | d4
   ·have:=h.Olt.2.2.lt p hp;omega
   ·exact h.Olt.2.1 p hp (e ▸ d4)
  ·obtain ⟨s',_,_,_,_,h2,h3⟩:=ι1 i b' hi;rw[h.inj s' s b' h2 hσ] at h3;exact gY h3
  ·obtain ⟨s1,_,_,_,h1,h2,_⟩:=ι1 i c hi;obtain ⟨s2,_,_,_,dW,fA,_⟩:=ι1 j c hj;obtain rfl:=h.inj s1 s2 c h2 fA;exact zcd bo i j _ _ s1 hnd h1 dW (by simp[AV.refs]) (by simp[AV.refs])
 have cd:zjj S A w b' ι cs el ob.size:=by
  refine ⟨ob,k2,rfl,by omega,fun j x hx => ?_⟩;obtain ⟨x0,az,aC⟩:=c2 j x hx;rcases yt aC with ⟨s',z,es,rfl,hb,rfl⟩ | ⟨hr,rfl⟩
  ·have e:ι j=σ s':=by simp only[ι,az]
   rw[e];exact zaQ h (k4 j _ az) hb
  ·have e:ι j=none:=by
    simp only[ι,az];split
    ·rename_i e;cases e;simp[AV.refs] at hr
    ·rfl
   rw[e];exact qM ((k4 j _ az).to0 hr)
 have oX:∀ c,S.jg c->¬ Foot b' ι c:=fun c hc hf=>by
  rcases hf with rfl | ⟨i,hi⟩
  ·exact (h.jpre jr).na c hc (.inr ⟨s,hσ⟩)
  ·obtain ⟨s',_,_,_,_,h2,_⟩:=ι1 i c hi;exact (h.jpre jr).na c hc (.inr ⟨s',h2⟩)
 have hJ:JR S A (Foot b' ι) w:=(by have jp:=h.jpreA jr;exact ⟨jp.jn,jp.lt,jp.na,oX,jp.ng⟩);obtain ⟨σ2,s1,s2,s3⟩:=SRel.dropSL (AV.refsL bo) h mj;obtain ⟨ch,aK⟩:=zgc (AV.refsL bo) gY hs;refine (aH g hf A w vs b' ι el ob.size (by simpa using hl) e7 ⟨h.Alt,h.inv⟩ foot hJ cd fun i x hx=>(hg (i+1) x (by simpa using hx)).rel.to0 (eF x (Ae hx))).mono ?_;rintro e w' ⟨rv,β,he,bw,hj,hβ,aA,fM,bh⟩;obtain ⟨h,fm⟩:=h.reb jr bw.size hj;obtain ⟨s1,_⟩:=s1.reb jr bw.size hj;have hk:KeepO (Foot b' ι) (w3 S w w') w':=KeepO.reb bw;have k2:(w3 S w w').heap[b']? = some (.cells ob el (0,0)):=(jG fun e=>oX b' e (.inl rfl)).trans k2;have cr:zI (fun c=>A c∨qI ι c) β w w'=zI (fun c=>A c∨qI ι c) β (w3 S w w') w':=by funext c;simp only[zI,zF]
 have aG:(w3 S w w').heap.size=w.heap.size:=zF;rw[cr] at fM bh;rw[← aG] at hβ;have bu:RebR S w0 (w3 S w0 w'):=wE;have pq:∀ c,A c->¬ Foot b' ι c:=fun c hc hF=>(foot.lt c hF).2.1 hc;generalize w3 S w0 w'=W0 at *;generalize w3 S w w'=W at *;have hσ2:σ2 s=some b':=(s3 s gY).trans hσ;have kr:∀ c,Foot b' ι c->W0.heap.size<=c∨O c:=by
  rintro c (rfl | ⟨i,hi⟩)
  ·exact (h.dom s c hσ).2.2.2
  ·obtain ⟨s',_,_,_,_,h2,_⟩:=ι1 i c hi;exact (h.dom s' c h2).2.2.2
 have aJ:∀ s' c,σ2 s'=some c->σ s'=some c∧s' ∉ AV.refsL bo:=by
  intro s' c hc;by_cases e:s'∈AV.refsL bo
  ·rw[s2 s' e] at hc;cases hc
  ·exact ⟨(s3 s' e) ▸ hc,e⟩
 have mm:∀ s' c,σ2 s'=some c->¬ qI ι c:=fun s' c hc ⟨i,hi⟩=>(by obtain ⟨bQ,_,_,_,_,h2,h3⟩:=ι1 i c hi;obtain ⟨h4,h5⟩:=aJ s' c hc;exact h5 (h.inj s' bQ c h4 h2 ▸ h3));have hnβ:∀ s' c k,σ2 s'=some c->β k≠some c:=fun s' c k hc hb=>by
  rcases (hβ k c hb).1 with q | q
  ·have:=(s1.dom s' c hc).2.1;omega
  ·exact mm s' c hc q
 obtain ⟨gT,m1,m2,m3,m4⟩:=fM
 have hrel:=s1.afterV (A':=zI (fun c=>A c∨qI ι c) β W w') hk (fun c hc=>⟨⟨.inl (.inl hc),AD (h.Alt c hc) hk.size,fun i e=>by
   rcases (hβ i c e).1 with q | q
   ·have:=h.Alt c hc;omega
   ·exact pq c hc (.inr q)⟩,pq c hc⟩) (fun c hc=>by
   rcases hc.1 with (q | q) | q
   ·exact .inl q
   ·exact .inr (.inr (.inr q))
   ·exact .inr (.inl q)) (fun c hc=>hc.2.1) (fun s' c ae hc=>by
   rcases hc.1 with (q | q) | q
   ·exact (s1.dom s' c ae).2.2.1 q
   ·exact mm s' c ae q
   ·have:=(s1.dom s' c ae).2.1;omega) kr hσ2 aK (fun s' c ae ah hF=>by
   rcases hF with rfl | hF
   ·exact ah (s1.inj s' s c ae hσ2)
   ·exact mm s' c ae hF) k2 rfl m1 m2
 have hβ':∀ i c,β i=some c->c < w'.heap.size∧¬ zI (fun c=>A c∨qI ι c) β W w' c∧(W0.heap.size<=c∨O c):=by
  intro i c hc;refine ⟨(hβ i c hc).2,fun hh=>hh.2.2 i hc, ?_⟩;rcases (hβ i c hc).1 with q | q
  ·exact .inl (AH h.keep.size q)
  ·exact kr c (.inr q)
 obtain ⟨σ3,p1,p2,p3,p4⟩:=zbK hrel hσ2 ⟨gT,m1,m2,m3,m4⟩ (fun i c hc=>hβ' _ c hc) (fun i j c hi hj=>by have:=aA _ _ c hi hj;omega) (fun s' c k ae=>hnβ s' c _ ae) gk
 obtain ⟨σ',q⟩:=kJ p1 (β:=fun i=>β (2 * i)) (fun i c hc=>hβ' _ c hc) (fun i j c hi hj=>by have:=aA _ _ c hi hj;omega) (fun s' c k ae hb=>by
   rcases p4 s' c ae with q | ⟨j,q⟩
   ·exact hnβ s' c _ q hb
   ·have:=aA _ _ c q hb;omega) bh himp
 exact ⟨rv,_,σ',_,he,bu,fm,q⟩
def zhz (h:SRel S A0 O w0 A σ w st tm) (jr:JR S A0 O w0) {args:List AV} {vs:Array Value} (hl:vs.size=args.length) (hg:∀ (i:Nat) (x:AV),args[i]? = some x->Got S A σ w st x (vs.getD i undef))
  {g f:Nat} (hf:qh g S.fns=some f) (hc:zjk (za S) f args d st v aa) :
  Calls S.P g vs w fun e w'=>∃ rv A' σ' w1,e=.returned rv∧RebR S w0 w1∧JR S A0 O w1∧SRel S A0 O w1 A' σ' w' aa tm∧Got S A' σ' w' aa v rv:=by
 obtain ⟨rs,cs,ai,ys,hd,eF,aH,gk,himp,rfl⟩:=hc;refine (aH g hf A w vs hl ⟨h.Alt,h.inv⟩ (h.jpreA jr) fun i x hx=>(hg i x hx).rel.to0 (eF x (Ae hx))).mono ?_;rintro e w' ⟨us,b,β,el,m,he,bw,hj,bV,lV,hβ,aA,cd,hlen,bh⟩;obtain ⟨h,fm⟩:=h.reb jr bw.size hj;have hk:KeepO (fun _=>False) (w3 S w w') w':=bw.rebN;have cr:zI A β w w'=zI A β (w3 S w w') w':=by funext c;simp only[zI,zF]
 have aG:(w3 S w w').heap.size=w.heap.size:=zF;rw[cr] at cd bh;rw[← aG] at hβ;have bu:RebR S w0 (w3 S w0 w'):=wE;generalize w3 S w0 w'=W0 at *;generalize w3 S w w'=W at *;have gx:=h.grow (A':=zI A β W w') hk (fun c hc=>⟨.inl hc,AD (h.Alt c hc) hk.size,fun i e=>by have:=(hβ i c e).1;have:=h.Alt c hc;omega⟩) (fun c hc=>hc.1) fun c hc=>hc.2.1;have hβ':∀ i c,β i=some c->c < w'.heap.size∧¬ zI A β W w' c∧(W0.heap.size<=c∨O c):=fun i c hc=>⟨(hβ i c hc).2,fun hh=>hh.2.2 i hc,.inl (AH h.keep.size (hβ i c hc).1)⟩;have hnβ:∀ s' c k,σ s'=some c->β k≠some c:=fun s' c k hc hb=>(by have:=(h.dom s' c hc).2.1;have:=(hβ k c hb).1;omega);obtain ⟨ob,m1,m2,m3,m4⟩:=cd;have nk:=gx.addSite hd (b?:=some b) (blk:=.var []) rfl ⟨b,ob,el,zM _ _ _,m1,by simp,by simp⟩ (fun c hc=>by
  cases hc;exact ⟨(hβ' 0 b bV).1,(hβ' 0 b bV).2.1,(hβ' 0 b bV).2.2,fun s hs=>hnβ s b 0 hs bV⟩)
 have aT:∀ s' c k,upd σ d (some b) s'=some c->k≠0->β k≠some c:=fun s' c k ae bw hc=>by
  simp only[upd] at ae;split at ae
  ·cases ae;exact bw (aA _ _ b hc bV)
  ·exact hnβ s' c _ ae hc
 obtain ⟨σ3,p1,p2,p3,p4⟩:=zbK nk (zM _ _ _) ⟨ob,m1,m2,m3,m4⟩ (fun i c hc=>hβ' _ c hc) (fun i j c hi hj=>by have:=aA _ _ c hi hj;omega) (fun s' c k ae=>aT s' c _ ae (by omega)) gk
 obtain ⟨σ',q1,q2,q3,q4⟩:=w9 (us:=us) (d:=d) (β:=fun i=>β (2 * i)) (fun i c hc=>hβ' _ c hc) (fun i j c hi hj=>by have:=aA _ _ c hi hj;omega) rs 1 p1 bh (fun s' c k ae hk hb=>by
   rcases p4 s' c ae with q | ⟨j,q⟩
   ·exact aT s' c _ q (by omega) hb
   ·have:=aA _ _ c q hb;omega) himp
 obtain ⟨r1,r2⟩:=q4 d p3;refine ⟨.tuple us,_,σ',_,he,bu,fm,q1,.tup (by simp;omega) fun i x hx => ?_,fun s hs => ?_⟩
 ·cases i with
  | zero =>simp at hx;subst hx;rw[lV];exact .pv (r1.trans p2)
  | succ i =>
   have:=(q3 i x (by simpa using hx)).rel
   rwa [Nat.add_comm 1 i] at this
 ·rw[AV.refs,zd] at hs;obtain ⟨x,hx,hs⟩:=hs;rcases Aq.1 hx with rfl | hx
  ·simp only[AV.refs,Ai] at hs;subst hs;exact r2
  ·obtain ⟨i,hi⟩:=Ay.1 hx;exact (q3 i x hi).dang s hs
end
end
end Ab
