import Derived.Test.YtkaifdgeigdbhaaGreatDoorA1
import Derived.Laws.Tables
import Derived.Great.BuildSlice
import Derived.Deep.DeepAppendWide
set_option linter.all false
namespace Ab
section
open Go Go.RowKit
section
variable {S:Seat} {A0:Nat->Prop} {O:Hnd} {w0:World} {A:Nat->Prop} {σ:Nat->Option Nat} {w:World} {st aa:ASt} {tm:Array Value} {df:List Deferred} {o:Oper} {v:AV} {d:Nat}
def zgh {x:Operand} (h:zgi x=true):x=.const .nilIface:=by
 unfold zgi at h;split at h
 ·rfl
 ·cases h
def zhq {P:Program} {t:TypeId} {ms:Array (String×TypeId)} (hu:P.underlying t=some (.interface ms)) (w:World) :
  (Op.equal t .nilIface .nilIface).run P w=.ok true w∧(∀ T v,(Op.equal t (.iface T v) .nilIface).run P w=.ok false w)∧(∀ T v,(Op.equal t .nilIface (.iface T v)).run P w=.ok false w):=by
 have e1:∀ dd,(Op.equalIn (dd+1) t .nilIface .nilIface).run P w=.ok true w:=fun dd=>by simp[Op.equalIn,run_underlying hu]
 have e2:∀ dd T v,(Op.equalIn (dd+1) t (.iface T v) .nilIface).run P w=.ok false w:=fun dd T v=>by simp[Op.equalIn,run_underlying hu]
 have e3:∀ dd T v,(Op.equalIn (dd+1) t .nilIface (.iface T v)).run P w=.ok false w:=fun dd T v=>by simp[Op.equalIn,run_underlying hu]
 exact ⟨e1 9999,e2 9999,e3 9999⟩
def zeP (h:SRel S A0 O w0 A σ w st tm) {neg:Bool} {t u:TypeId} {ms:Array (String×TypeId)} {x y z:Operand} {z':AOpd} (ho:o.op=.binOp (if neg then .neq else .eql) t x y u) (hu:S.P.underlying t=some (.interface ms))
  (hz:(z=x∧zgi y=true)∨(z=y∧zgi x=true)) (h1:ql S z=some z') (ha:aop (.eqn false neg z') d st=some (v,aa)):yS S A0 O w0 w tm df o v aa:=by
 have g1:=h.ev (df:=df) h1;obtain ⟨k1,k2,k3⟩:=zhq hu w
 have key:∀ b:Bool,((Act.eval ⟨tm,df⟩ z=.nilIface∧b=true)∨((∃ T v,Act.eval ⟨tm,df⟩ z=.iface T v)∧b=false)) ->
   (execOp (Act.eval ⟨tm,df⟩) o).run S.P w=.ok (.value (.bool (if neg then !b else b))) w:=by
  intro b hb;have ek:Act.eval ⟨tm,df⟩ (.const .nilIface)=.nilIface:=rfl;rcases hz with ⟨rfl,hy⟩ | ⟨rfl,hx⟩
  ·obtain rfl:=zgh hy;rcases hb with ⟨hb,rfl⟩ | ⟨⟨T,v,hb⟩,rfl⟩
   ·cases neg<;>simp[execOp,ho,hb,ek,eqGuard_nil_constR,binOp,k1]
   ·cases neg<;>simp[execOp,ho,hb,ek,eqGuard_at_iface,binOp,k2]
  ·obtain rfl:=zgh hx;rcases hb with ⟨hb,rfl⟩ | ⟨⟨T,v,hb⟩,rfl⟩
   ·cases neg<;>simp[execOp,ho,hb,ek,eqGuard_nil_constL,binOp,k1]
   ·cases neg<;>simp[execOp,ho,hb,ek,eqGuard_nil_iface,binOp,k3]
 simp only[aop,Aq,if_false] at ha;split at ha
 ·rename_i he;rw[he] at g1;simp only[Option.some.injEq,Prod.mk.injEq] at ha;obtain ⟨rfl,rfl⟩:=ha;exact .same h (rv:=.bool (!neg)) (by rw[key true (.inl ⟨g1.rel.v_inv,rfl⟩)];cases neg<;>rfl) (zdX _)
 ·rename_i k x1 he;rw[he] at g1;obtain ⟨T,v',e,_⟩:=g1.rel.ifc_inv;simp only[Option.some.injEq,Prod.mk.injEq] at ha;obtain ⟨rfl,rfl⟩:=ha;exact .same h (rv:=.bool neg) (by rw[key false (.inr ⟨⟨T,v',e⟩,rfl⟩)];cases neg<;>rfl) (zdX _)
 ·rename_i k x1 he;rw[he] at g1;simp only[Option.some.injEq,Prod.mk.injEq] at ha;obtain ⟨rfl,rfl⟩:=ha;exact .same h (rv:=.bool neg) (by rw[key false (.inr ⟨⟨_,_,g1.rel.v_inv⟩,rfl⟩)];cases neg<;>rfl) (zdX _)
 ·cases ha
def op_eqnS (h:SRel S A0 O w0 A σ w st tm) {neg:Bool} {t u e:TypeId} {x:Operand} {x':AOpd} (ho:o.op=.binOp (if neg then .neq else .eql) t x (.const (.slice none 0 0)) u) (hu:S.P.underlying t=some (.slice e))
  (h1:ql S x=some x') (ha:aop (.eqn true neg x') d st=some (v,aa)):yS S A0 O w0 w tm df o v aa:=by
 have g1:=h.ev (df:=df) h1;have k:∀ b n c,(Op.equal t (.slice b n c) (.slice none 0 0)).run S.P w=.ok b.isNone w:=by
  intro b n c;have e1:∀ dd,(Op.equalIn (dd+1) t (.slice b n c) (.slice none 0 0)).run S.P w=.ok b.isNone w:=fun dd=>by cases b<;>simp[Op.equalIn,run_underlying hu]
  exact e1 9999
 have key:∀ b n c,Act.eval ⟨tm,df⟩ x=.slice b n c->(execOp (Act.eval ⟨tm,df⟩) o).run S.P w=.ok (.value (.bool (if neg then !b.isNone else b.isNone))) w:=(by intro b n c hb;have e2:Act.eval ⟨tm,df⟩ (.const (.slice none 0 0))=.slice none 0 0:=rfl;cases neg<;>simp[execOp,ho,hb,e2,eqGuard_at_slice,binOp,k])
 simp only[aop,if_true] at ha;split at ha
 ·rename_i he;rw[he] at g1;simp only[Option.some.injEq,Prod.mk.injEq] at ha;obtain ⟨rfl,rfl⟩:=ha;exact .same h (rv:=.bool (!neg)) (by rw[key _ _ _ g1.rel.v_inv];cases neg<;>rfl) (zdX _)
 ·rename_i a l c he;rw[he] at g1;simp only[Option.some.injEq,Prod.mk.injEq] at ha;obtain ⟨rfl,rfl⟩:=ha;exact .same h (rv:=.bool neg) (by rw[key _ _ _ g1.rel.v_inv];cases neg<;>rfl) (zdX _)
 ·rename_i z e1 es he;rw[he] at g1;simp only[Option.some.injEq,Prod.mk.injEq] at ha;obtain ⟨rfl,rfl⟩:=ha;rcases g1.rel.sl_inv with ⟨hf,_⟩ | ⟨b,o',cap,u,e1,_⟩ | ⟨hf,_⟩
  ·cases hf
  ·exact .same h (rv:=.bool neg) (by rw[key _ _ _ e1];cases neg<;>rfl) (zdX _)
  ·cases hf
 ·cases ha
def scTy (P:Program) (t:TypeId):Sc->Prop
 | .int=>∃ k,P.underlying t=some (.int k)
 | .bool=>P.underlying t=some .bool
 | .str=>P.underlying t=some .string
def scEq_int {x y:AV} {r:Bool} (h:zjM .int x y=some r):∃ k a b,x=.v (.int k a)∧y=.v (.int k b)∧r=decide (a=b):=by
 unfold zjM at h;split at h
 ·rename_i k a k' b _;split at h
  ·rename_i hk;subst hk;cases h;exact ⟨_,_,_,rfl,rfl,rfl⟩
  ·cases h
 ·rename_i hh;cases hh
 ·rename_i hh;cases hh
 ·cases h
def scEq_bool {x y:AV} {r:Bool} (h:zjM .bool x y=some r):∃ a b,x=.v (.bool a)∧y=.v (.bool b)∧r=decide (a=b):=by
 unfold zjM at h;split at h
 ·rename_i hh;cases hh
 ·cases h;exact ⟨_,_,rfl,rfl,rfl⟩
 ·rename_i hh;cases hh
 ·cases h
def scEq_str {x y:AV} {r:Bool} (h:zjM .str x y=some r):∃ a b,x=.v (.string a)∧y=.v (.string b)∧r=decide (a=b):=by
 unfold zjM at h;split at h
 ·rename_i hh;cases hh
 ·rename_i hh;cases hh
 ·cases h;exact ⟨_,_,rfl,rfl,rfl⟩
 ·cases h
def scEq_run {P:Program} {s:Sc} {t:TypeId} {x y:AV} {a b:Value} {r:Bool} (h:zjM s x y=some r) (ha:VR S A σ w x a) (hb:VR S A σ w y b) (ht:scTy P t s) (dd:Nat) (w1:World) :
  (Op.equalIn (dd+1) t a b).run P w1=.ok r w1:=by
 cases s with
 | int =>obtain ⟨k,n,m,rfl,rfl,rfl⟩:=scEq_int h;obtain ⟨k',ht⟩:=ht;rw[ha.v_inv,hb.v_inv,run_equalIn_int w1 dd t _ k' _ _ ht];by_cases he:n=m<;>simp[he]
 | bool =>obtain ⟨n,m,rfl,rfl,rfl⟩:=scEq_bool h;rw[ha.v_inv,hb.v_inv,run_equalIn_bool' w1 dd t _ _ ht];cases n<;>cases m<;>rfl
 | str =>obtain ⟨n,m,rfl,rfl,rfl⟩:=scEq_str h;rw[ha.v_inv,hb.v_inv,run_equalIn_string w1 dd t _ _ ht,ziW]
def zgF {P:Program} {cs ds:List AV} {xs ys:Array Value} (hx:cs.length=xs.size) (hy:ds.length=ys.size)
  (h1:∀ (i:Nat) (x:AV),cs[i]? = some x->VR S A σ w x (xs.getD i undef)) (h2:∀ (i:Nat) (x:AV),ds[i]? = some x->VR S A σ w x (ys.getD i undef)) (dd:Nat) (w1:World) :
  ∀ (fs:List Field) (l:List (Nat×Sc)) (r:Bool),zdn P fs=some l->zhM cs ds l=some r->(Op.eqFields (dd+1) xs ys fs).run P w1=.ok r w1
 | [],l,r,hl,hr=>by
  simp only[zdn,Option.some.injEq] at hl;subst hl;simp only[zhM,Option.some.injEq] at hr;subst hr;simp[Op.eqFields]
 | f :: fs,l,r,hl,hr=>by
  simp only[zdn] at hl;split at hl
  ·cases hl
  ·rename_i hn
   have step:∀ (s:Sc) (l':List (Nat×Sc)),zdn P fs=some l'->l=(f.offset,s) :: l' ->
     scTy P f.type s->(Op.eqFields (dd+1) xs ys (f :: fs)).run P w1=.ok r w1:=by
    intro s l' aZ hle ht;subst hle;simp only[zhM] at hr;split at hr
    ·rename_i x y ex ey;split at hr
     ·rename_i a b ha hb;cases hr;have hi:f.offset < xs.size:=by have:=(Ac.1 ex).1;omega
      have hj:f.offset < ys.size:=by have:=(Ac.1 ey).1;omega
      have ih:=zgF hx hy h1 h2 dd w1 fs l' b aZ hb;have ks:=scEq_run (P:=P) (t:=f.type) ha (h1 _ _ ex) (h2 _ _ ey) ht dd w1;have iU:(isAgg f.type).run P w1=.ok false w1:=by
       unfold isAgg;cases s with
       | int=>obtain ⟨k,ht⟩:=ht;rw[Sem.run_bind,run_underlying ht];rfl
       | bool=>rw[Sem.run_bind,run_underlying ht];rfl
       | str=>rw[Sem.run_bind,run_underlying ht];rfl
      have p1:(part f.type xs f.offset).run P w1=.ok (xs.getD f.offset undef) w1:=by simp[part,iU,Array.getD,hi]
      have p2:(part f.type ys f.offset).run P w1=.ok (ys.getD f.offset undef) w1:=by simp[part,iU,Array.getD,hj]
      simp only[Op.eqFields,ne_eq,hn,not_false_eq_true,if_true,Sem.run_bind,p1,p2,ks,Result.andThen_ok];cases a<;>simp[ih]
     ·cases hr
    ·cases hr
   split at hl
   ·rename_i k l' hu aZ;cases hl;exact step .int l' aZ rfl ⟨k,hu⟩
   ·rename_i l' hu aZ;cases hl;exact step .bool l' aZ rfl hu
   ·rename_i l' hu aZ;cases hl;exact step .str l' aZ rfl hu
   ·cases hl
def op_eqa (h:SRel S A0 O w0 A σ w st tm) {neg:Bool} {t u:TypeId} {fs:Array Field} {l:List (Nat×Sc)} {x y:Operand} {x' y':AOpd} (ho:o.op=.binOp (if neg then .neq else .eql) t x y u) (hu:S.P.underlying t=some (.struct fs))
  (hg:S.P.eqGuardType S.P.depth t=false) (hs:S.P.stoodInHeld t=false) (hl:zdn S.P fs.toList=some l) (h1:ql S x=some x') (h2:ql S y=some y') (ha:aop (.eqa neg l x' y') d st=some (v,aa)):yS S A0 O w0 w tm df o v aa:=by
 have g1:=h.ev (df:=df) h1;have g2:=h.ev (df:=df) h2;have hf:S.P.fieldsOf t=fs:=by simp[Program.fieldsOf,hu]
 simp only[aop] at ha;split at ha
 ·rename_i cs ds cQ cP;rw[cQ] at g1;rw[cP] at g2;obtain ⟨xs,e1,l1,v1⟩:=g1.rel.agg_inv;obtain ⟨ys,e2,l2,v2⟩:=g2.rel.agg_inv;split at ha
  ·rename_i r hr;simp only[Option.some.injEq,Prod.mk.injEq] at ha;obtain ⟨rfl,rfl⟩:=ha;have ke:(Op.equalIn 10000 t (.agg xs) (.agg ys)).run S.P w=.ok r w:=(by rw[run_equalIn_agg w 9999 t xs ys (by rw[hf];exact hu) hs,hf];exact zgF l1 l2 v1 v2 9998 w fs.toList l r hl hr);refine .same h (rv:=.bool (if neg then !r else r)) ?_ (zdX _)
   cases neg
   ·simp[execOp,ho,e1,e2,run_eqGuard_agg w _ t x y xs ys hg,run_eql_struct,ke]
   ·simp[execOp,ho,e1,e2,run_eqGuard_agg w _ t x y xs ys hg,run_neq_struct,ke]
  ·cases ha
 ·cases ha
def SRel.evs (h:SRel S A0 O w0 A σ w st tm):∀ {xs:List Operand} {as:List AOpd},fH S xs=some as ->
  xs.length=as.length∧∀ (i:Nat) (a:AV),(as.map st.ev)[i]? = some a->Got S A σ w st a ((xs.map (Act.eval ⟨tm,df⟩)).getD i undef)
 | [],as,hc=>by simp only[fH,zd,Option.some.injEq] at hc;subst hc;exact ⟨rfl,by simp⟩
 | x :: xs,as,hc=>by
  simp only[fH,zd] at hc;split at hc
  ·rename_i y ys hy bZ;cases hc;obtain ⟨k1,k2⟩:=SRel.evs h (xs:=xs) bZ;refine ⟨by simp[k1],fun i a hi => ?_⟩;cases i with
   | zero=>simp at hi;subst hi;simpa using h.ev hy
   | succ i=>simp at hi;simpa using k2 i a (by simpa using hi)
  ·cases hc
def op_mkfn (h:SRel S A0 O w0 A σ w st tm) {f id:Nat} {first caps:Array Operand} {l:List AOpd} (ho:o.op=.makeFunc (.func f) first caps) (hf:first.size=0) (hid:qz f S.fns=some id) (hl:fH S caps.toList=some l)
  (ha:aop (.mkfn id l) d st=some (v,aa)):yS S A0 O w0 w tm df o v aa:=by
 obtain ⟨k1,k2⟩:=h.evs (df:=df) hl;simp only[aop,Option.some.injEq,Prod.mk.injEq] at ha;obtain ⟨rfl,rfl⟩:=ha;have hfe:first=#[]:=Cg hf;have e:∀ i,(caps.map (Act.eval ⟨tm,df⟩)).getD i undef=(caps.toList.map (Act.eval ⟨tm,df⟩)).getD i undef:=(by intro i;simp[Ao,List.getD]);refine .same h (rv:=.func (.func f) #[] (caps.map (Act.eval ⟨tm,df⟩))) (by simp[execOp,ho,hfe,Instr.makeFunc]) ⟨.fn hid (by simp at k1 ⊢;omega) fun i a hi => ?_,fun s hs => ?_⟩
 ·rw[e];exact (k2 i a hi).rel
 ·rw[AV.refs,ze] at hs;obtain ⟨x,hx,hs⟩:=hs;obtain ⟨i,hi⟩:=AB.1 hx;exact (k2 i x hi).dang s hs
end
end
section
open Go Go.RowKit
section
variable {S:Seat} {A0:Nat->Prop} {O:Hnd} {w0:World} {A:Nat->Prop} {σ:Nat->Option Nat} {w:World} {st aa:ASt} {tm:Array Value} {df:List Deferred} {o:Oper} {v:AV} {d:Nat}
def ws.mono {A':Nat->Prop} {σ':Nat->Option Nat} {w':World} {s:Nat} {blk:Blk} (h:ws S A σ w s blk) (hA:∀ b,A b->A' b) (hw:∀ b,A b->w'.heap[b]? = w.heap[b]?)
  (hs:σ' s=σ s) (hb:∀ b,σ s=some b->w'.heap[b]? = w.heap[b]?) (hr:∀ s'∈blk.refs,zbG σ σ' w w' s'):ws S A' σ' w' s blk:=by
 cases blk with
 | var cs =>obtain ⟨b,vs,el,h1,h2,h3,h4⟩:=h;exact ⟨b,vs,el,hs.trans h1,(hb _ h1).trans h2,h3,fun i x hx=>(h4 i x hx).mono hA hw fun s' ab=>hr s' (by rw[Blk.refs];exact ze.2 ⟨x,Ad hx,ab⟩)⟩
 | arr z es =>
  obtain ⟨h0,⟨h1,h2⟩ | ⟨b,vs,el,h1,h2,h3,h5,h4⟩⟩:=h
  ·exact ⟨h0,.inl ⟨hs.trans h1,h2⟩⟩
  ·exact ⟨h0,.inr ⟨b,vs,el,hs.trans h1,(hb _ h1).trans h2,h3,h5,fun i e c x hi hc=>(h4 i e c x hi hc).mono hA hw⟩⟩
def KeepO.alloc (w:World) (O:Nat->Prop) (ob:Obj):KeepO O w (w.alloc ob):=⟨rfl,rfl,rfl,by simp,fun k hk _=>heap_alloc_old w ob k hk⟩
def KeepO.drew (w:World) (O:Nat->Prop):KeepO O w w.drew:=⟨rfl,rfl,rfl,AJ _,fun _ _ _=>rfl⟩
def VR0.heap {w':World} (hw:w'.heap=w.heap) {x:AV} {v:Value} (h:VR0 S A w x v):VR0 S A w' x v:=h.mono (fun _ h=>h) fun _ _=>by rw[hw]
def VR.heap {w':World} (hw:w'.heap=w.heap) {x:AV} {v:Value} (h:VR S A σ w x v):VR S A σ w' x v :=
 h.mono (fun _ h=>h) (fun _ _=>by rw[hw]) fun s _=>⟨rfl,fun b cs el _ hb=>⟨cs,by rw[hw];exact hb,rfl⟩⟩
def SRel.drew (h:SRel S A0 O w0 A σ w st tm):SRel S A0 O w0 A σ w.drew st tm :=
 ⟨fun k=>VR.heap (w:=w) (w':=w.drew) rfl (h.fr k),fun s blk hb=>(h.hp s blk hb).mono (fun _ h=>h) (fun _ _=>rfl) rfl (fun _ _=>rfl) fun _ _=>⟨rfl,fun _ cs _ _ hb=>⟨cs,hb,rfl⟩⟩,
  h.dang,h.dangV,h.dom,h.inj,h.Alt,h.Asub,h.keep.trans (KeepO.drew _ _),h.kp.same (fun _ _=>⟨rfl,fun _ cs _ _ hb=>⟨cs,hb,rfl⟩⟩) (fun _ _ _ h _=>h),h.Olt⟩
def SRel.newBlk (h:SRel S A0 O w0 A σ w st tm) {d:Nat} (hd:st.hp d=none) {vs:Array Value} {el:TypeId} {blk:Blk} (hk:∀ s∈blk.refs,st.hp s≠none)
  (hb:ws S A (upd σ d (some w.heap.size)) (w.alloc (.cells vs el)) d blk) :
  SRel S A0 O w0 A (upd σ d (some w.heap.size)) (w.alloc (.cells vs el)) (st.setH d (some blk)) tm:=by
 have hσd:σ d=none:=by
  cases hq:σ d with
  | none=>rfl
  | some b=>exact absurd hd (h.dom d b hq).1
 have hA:∀ b,A b->(w.alloc (.cells vs el)).heap[b]? = w.heap[b]?:=fun b hb=>heap_alloc_old w _ b (h.Alt b hb);have bJ:∀ s,st.hp s≠none->zbG σ (upd σ d (some w.heap.size)) w (w.alloc (.cells vs el)) s:=(by intro s hs;have ah:s≠d:=fun e=>hs (e ▸ hd);exact ⟨zbJ _ _ _ ah,fun b cs bC hb hc=>⟨cs,by rw[heap_alloc_old w _ b (h.dom s b hb).2.1];exact hc,rfl⟩⟩)
 refine ⟨fun k=>(h.fr k).mono (fun _ h=>h) hA fun s hs=>bJ s (h.dang k s hs),fun s b hs => ?_,fun k s hs => ?_,fun s cs hs s' ab => ?_,fun s b hs => ?_,fun s s' b h1 h2 => ?_,
  fun b hb=>by have:=h.Alt b hb;simp;omega,h.Asub,h.keep.trans (KeepO.alloc _ _ _),h.kp.same bJ fun s z es he _=>by
   have ah:s≠d:=fun e=>by rw[e,hd] at he;cases he
   simp only[ASt.setH,upd,if_neg ah];exact he,h.Olt⟩
 ·simp only[ASt.setH,upd] at hs;split at hs
  ·rename_i e;subst e;cases hs;exact hb
  ·rename_i ah;refine (h.hp s b hs).mono (fun _ h=>h) hA (zbJ _ _ _ ah) (fun b' ao=>heap_alloc_old w _ b' (h.dom s b' ao).2.1) fun s' ab=>bJ s' ?_;cases b with
   | var cs=>exact h.dangV s cs hs s' (by rw[Blk.refs] at ab;exact ab)
   | arr z es=>simp[Blk.refs] at ab
 ·simp only[ASt.setH,upd];split
  ·simp
  ·exact h.dang k s hs
 ·simp only[ASt.setH,upd] at hs ⊢;split
  ·simp
  ·split at hs
   ·cases hs;exact hk s' (by rw[Blk.refs];exact ab)
   ·exact h.dangV s cs hs s' ab
 ·simp only[upd] at hs;split at hs
  ·rename_i e;subst e;cases hs;refine ⟨by simp[ASt.setH,upd],by simp,fun ha => ?_,.inl h.keep.size⟩;have:=h.Alt _ ha;omega
  ·rename_i ah;obtain ⟨k1,k2,k3,k4⟩:=h.dom s b hs;exact ⟨by simp[ASt.setH,upd,ah];exact k1,by simp;omega,k3,k4⟩
 ·simp only[upd] at h1 h2;split at h1
  ·rename_i e1;subst e1;cases h1;split at h2
   ·rename_i e2;exact e2.symm
   ·have:=(h.dom s' _ h2).2.1;omega
  ·split at h2
   ·rename_i e2;subst e2;cases h2;have:=(h.dom s _ h1).2.1;omega
   ·exact h.inj s s' b h1 h2
def yV (w:World) (g:Nat) (old new:Array Value) (el:TypeId) (hg:w.heap[g]? = some (.cells old el (0,0))) (hs:new.size=old.size) (s:Nat):zbG σ σ w (w.setRow g new) s:=by
 refine ⟨rfl,fun b cs bC _ hc => ?_⟩;by_cases hb:b=g
 ·subst hb;rw[hg] at hc;cases hc;exact ⟨new,setRow_heap w b old new el _ hg,hs⟩
 ·exact ⟨cs,by rw[setRow_other w g b new hb];exact hc,rfl⟩
def SRel.setBlk (h:SRel S A0 O w0 A σ w st tm) {s b:Nat} (hσ:σ s=some b) {old new:Array Value} {el:TypeId} (hg:w.heap[b]? = some (.cells old el (0,0))) (hs:new.size=old.size) {blk:Blk}
  (hk:∀ s'∈blk.refs,st.hp s'≠none) (hb:ws S A σ (w.setRow b new) s blk) (hf:∀ z es,zba s=true->st.hp s=some (.arr z es)->∃ aL,blk=.arr z aL∧aL.length=es.length):SRel S A0 O w0 A σ (w.setRow b new) (st.setH s (some blk)) tm:=by
 obtain ⟨d1,d2,d3,d4⟩:=h.dom s b hσ;have hA:∀ c,A c->(w.setRow b new).heap[c]? = w.heap[c]?:=fun c hc=>setRow_other w b c new (fun e=>d3 (e ▸ hc))
 refine ⟨fun k=>(h.fr k).mono (fun _ h=>h) hA fun s' _=>yV w b old new el hg hs s',fun s' b' ab => ?_,fun k s' ab => ?_,fun s' cs ab dh aX => ?_,fun s' b' ab => ?_,h.inj,
  fun c hc=>by rw[size_setRow];exact h.Alt c hc,h.Asub,⟨h.keep.os,h.keep.tape,h.keep.output,by rw[size_setRow];exact h.keep.size,fun k hk hO => ?_⟩,
  h.kp.of fun s' da hn=>⟨yV w b old new el hg hs s',fun z es he=>by
   simp only[ASt.setH,upd];split
   ·rename_i e;subst e;obtain ⟨aL,k1,k2⟩:=hf z es da he;exact ⟨aL,by rw[k1],k2⟩
   ·exact ⟨es,he,rfl⟩⟩,h.Olt⟩
 ·simp only[ASt.setH,upd] at ab;split at ab
  ·rename_i e;subst e;cases ab;exact hb
  ·rename_i ah;refine (h.hp s' b' ab).mono (fun _ h=>h) hA rfl (fun c hc=>setRow_other w b c new fun e=>ah (h.inj s' s b (e ▸ hc) hσ)) fun dh _=>yV w b old new el hg hs dh
 ·simp only[ASt.setH,upd];split
  ·simp
  ·exact h.dang k s' ab
 ·simp only[ASt.setH,upd] at ab ⊢;split
  ·simp
  ·split at ab
   ·cases ab;exact hk dh (by rw[Blk.refs];exact aX)
   ·exact h.dangV s' cs ab dh aX
 ·obtain ⟨k1,k2,k3,k4⟩:=h.dom s' b' ab;refine ⟨?_,by rw[size_setRow];exact k2,k3,k4⟩;simp only[ASt.setH,upd];split
  ·simp
  ·exact k1
 ·rw[setRow_other w b k new (fun e=>by subst e;exact d4.elim (fun d4=>by omega) hO)];exact h.keep.block k hk hO
def SRel.scrub (h:SRel S A0 O w0 A σ w st tm) (s:Nat):SRel S A0 O w0 A σ w (st.scrub s) tm:=by
 have hx:∀ x v,VR S A σ w x v->VR S A σ w (Ab.scrub s x) v:=by
  intro x v hv;unfold Ab.scrub;split
  ·exact .of0 (.bot v)
  ·exact hv
 have hr:∀ x s',s'∈(Ab.scrub s x).refs->s'∈x.refs:=by
  intro x s' hs;unfold Ab.scrub at hs;split at hs
  ·simp[AV.refs] at hs
  ·exact hs
 have hn:∀ k,(st.scrub s).hp k≠none↔st.hp k≠none:=by intro k;simp[ASt.scrub]
 refine ⟨fun k=>hx _ _ (h.fr k),fun s' blk hb => ?_,fun k s' ab=>(hn s').2 (h.dang k s' (hr _ _ ab)),fun s' cs ab dh aX=>(hn dh).2 ?_,fun s' b ab => ?_,h.inj,h.Alt,h.Asub,h.keep,h.kp.same (fun _ _=>⟨rfl,fun _ cs _ _ hb=>⟨cs,hb,rfl⟩⟩) (fun s' z es he _=>by simp[ASt.scrub,he,zal]),h.Olt⟩
 ·simp only[ASt.scrub,Ag] at hb;obtain ⟨b0,cE,rfl⟩:=hb;have:=h.hp s' b0 cE;cases b0 with
  | var cs =>obtain ⟨b,vs,el,h1,h2,h3,h4⟩:=this;refine ⟨b,vs,el,h1,h2,by simpa using h3,fun i x hi => ?_⟩;simp only[As,Ag] at hi;obtain ⟨y,hy,rfl⟩:=hi;exact hx _ _ (h4 i y hy)
  | arr z es=>exact this
 ·simp only[ASt.scrub,Ag] at ab;obtain ⟨b0,cE,he⟩:=ab;cases b0 with
  | var fE =>simp only[zal,Blk.var.injEq] at he;subst he;rw[ze] at aX;obtain ⟨x,aQ,fJ⟩:=aX;rw[Am] at aQ;obtain ⟨y,hy,rfl⟩:=aQ;exact h.dangV s' fE cE dh (ze.2 ⟨y,hy,hr _ _ fJ⟩)
  | arr z es=>simp[zal] at he
 ·obtain ⟨k1,k2⟩:=h.dom s' b ab;exact ⟨(hn s').2 k1,k2⟩
def nC (s:Nat) (x:AV):s ∉ (Ab.scrub s x).refs:=by
 unfold Ab.scrub;split
 ·simp[AV.refs]
 ·rename_i h;simpa using h
def VR.frz (h:SRel S A0 O w0 A σ w st tm) {s z0:Nat} {es:List (List AV)} (hb:st.hp s=some (.arr z0 es)) {x:AV} {v:Value} (hv:VR S A σ w x v) :
  VR S (fun b=>A b∨σ s=some b) (fun k=>if k=s then none else σ k) w (Ab.frz s z0 es x) v:=by
 have gen:x.refs.contains s=false->VR S (fun b=>A b∨σ s=some b) (fun k=>if k=s then none else σ k) w x v:=by
  intro hc;refine hv.mono (fun _ h=>.inl h) (fun _ _=>rfl) fun s' ab => ?_;have ah:s'≠s:=fun e=>by subst e;simp at hc;exact hc ab
  exact ⟨by simp[ah],fun b cs el _ hb=>⟨cs,hb,rfl⟩⟩
 obtain ⟨k0,gH⟩:=h.hp s _ hb;unfold Ab.frz;split
 ·rename_i s' z off len;split
  ·rename_i e;subst e;split
   ·rename_i hc;obtain ⟨rfl,hle⟩:=hc;have hlen:((es.drop off).take len).length=len:=by simp;omega
    rcases hv.lsl_inv with ⟨rfl,rfl,k1,rfl⟩ | ⟨b,o',cap,cs,el,rfl,k1,k2,k3,k4,k5,k6⟩
    ·exact .of0 (by simpa using VR0.slnil _)
    ·rcases gH with ⟨j1,_⟩ | ⟨b',vs,bC,j1,j2,j3,j5,j4⟩
     ·rw[j1] at k1;cases k1
     ·obtain rfl:b'=b:=Option.some.inj (j1.symm.trans k1);refine .of0 ?_;by_cases h0:len=0
      ·subst h0;simp only[BR];exact VR0.sl (es:=[]) (o:=o') (u:=fun _=>undef) (.inr k1) (Bx _) (by simp) (by simp) (by simp) (by simp)
      ·have ho:=k3 (.inl (by omega));subst ho;have aH:len * z+off * z<=es.length * z:=by rw[← A4];exact AL _ (by omega)
       have:=VR0.sl (S:=S) (A:=fun b=>A b∨σ s'=some b) (w:=w) (z:=z) (es:=(es.drop off).take len) (b:=b') (o:=off * z) (cap:=cap) (u:=fun j=>vs.getD (off * z+j) undef) (.inr k1) (by omega)
        (fun e he=>k0 e (BN (BF he)))
        (fun j hj=>by
         rw[hlen] at hj;have:off * z+j < vs.size:=by omega
         simp[World.cell?,j2,this,Array.getD])
        (fun j hj=>by rw[hlen] at hj;exact j5 _ (by omega))
        (fun i e c a hi hc=>by
         have ak:i < len:=by have:=(Ac.1 hi).1;omega
         rw[AX ak,Bu] at hi;have:=(j4 _ _ _ _ hi hc).mono (A':=fun b=>A b∨σ s'=some b) (fun _ h=>.inl h) (fun _ _=>rfl)
         rwa [A4,Bm] at this)
       rwa [hlen] at this
   ·exact .of0 (.bot _)
  ·rename_i ah;exact gen (by simp[AV.refs,Ne.symm ah])
 ·rename_i s' z i off;split
  ·rename_i e;subst e;split
   ·rename_i hz;subst hz;split
    ·rename_i cs al;obtain ⟨b,rfl,k1⟩:=hv.pe_inv;rcases gH with ⟨j1,_⟩ | ⟨b',vs,bC,j1,j2,j3,j5,j4⟩
     ·rw[j1] at k1;cases k1
     ·obtain rfl:b'=b:=Option.some.inj (j1.symm.trans k1);have bw:cs.length=z:=k0 _ (Ad al);have hi:i < es.length:=(Ac.1 al).1;have aH:(i+1) * z<=es.length * z:=AL _ hi;rw[A4] at aH;exact .of0 (.ep (.inr k1) (u:=fun j=>vs.getD (i * z+j) undef) (fun j hj=>by
       have:i * z+j < vs.size:=by omega
       simp[World.cell?,j2,this,Array.getD]) fun j x hj=>(j4 _ _ _ _ al hj).mono (fun _ h=>.inl h) (fun _ _=>rfl))
    ·exact .of0 (.bot _)
   ·exact .of0 (.bot _)
  ·rename_i ah;exact gen (by simp[AV.refs,Ne.symm ah])
 ·split
  ·exact .of0 (.bot _)
  ·rename_i hc;exact gen (by simpa using hc)
def ziC (s z0:Nat) (es:List (List AV)) (x:AV) (s':Nat) (h:s'∈(Ab.frz s z0 es x).refs):s'∈x.refs∧s'≠s:=by
 unfold Ab.frz at h;split at h
 ·split at h
  ·split at h<;>simp[AV.refs] at h
  ·rename_i ah;simp[AV.refs] at h;subst h;exact ⟨by simp[AV.refs],ah⟩
 ·split at h
  ·split at h
   ·split at h<;>simp[AV.refs] at h
   ·simp[AV.refs] at h
  ·rename_i ah;simp[AV.refs] at h;subst h;exact ⟨by simp[AV.refs],ah⟩
 ·split at h
  ·simp[AV.refs] at h
  ·rename_i hc;exact ⟨h,fun e=>by subst e;simp at hc;exact hc h⟩
def SRel.freeze (h:SRel S A0 O w0 A σ w st tm) (s:Nat) (da:zba s=false):∃ A' σ',SRel S A0 O w0 A' σ' w (st.freeze s) tm∧(∀ b,A b->A' b)∧(∀ b,cT st.hp s=true->σ s=some b->A' b) ∧
  (∀ s',s'≠s->σ' s'=σ s'∧cT (st.freeze s).hp s'=cT st.hp s'):=by
 unfold ASt.freeze;split
 ·rename_i z es hb
  refine ⟨fun b=>A b∨σ s=some b,fun k=>if k=s then none else σ k,⟨fun k=>VR.frz h hb (h.fr k),fun s' blk ab => ?_,fun k s' ab => ?_,fun s' cs ab dh aX => ?_,fun s' b ab => ?_,fun s1 s2 b h1 h2 => ?_,
   fun b ao => ?_,fun b ao => ?_,h.keep,h.kp.of fun s' ab hn => ?_,h.Olt⟩,fun b hb=>.inl hb,fun b _ hs=>.inr hs,fun s' ah=>⟨by simp[ah], ?_⟩⟩
  ·dsimp only at ab
   split at ab
   ·cases ab
   ·rename_i ah;simp only[Ag] at ab;obtain ⟨b0,cE,rfl⟩:=ab;have hr:=h.hp s' b0 cE;cases b0 with
    | var cs =>obtain ⟨b,vs,el,h1,h2,h3,h4⟩:=hr;refine ⟨b,vs,el,by simp[ah,h1],h2,by simpa using h3,fun i x hi => ?_⟩;simp only[As,Ag] at hi;obtain ⟨y,hy,rfl⟩:=hi;exact VR.frz h hb (h4 i y hy)
    | arr z' aL =>exact hr.mono (fun _ h=>.inl h) (fun _ _=>rfl) (by simp[ah]) (fun _ _=>rfl) (by simp[Blk.refs])
  ·obtain ⟨k1,k2⟩:=ziC _ _ _ _ _ ab;have:=h.dang k s' k1;simp[k2,this]
  ·dsimp only at ab
   split at ab
   ·cases ab
   ·simp only[Ag] at ab;obtain ⟨b0,cE,he⟩:=ab;cases b0 with
    | var fE =>simp only[frzB,Blk.var.injEq] at he;subst he;rw[ze] at aX;obtain ⟨x,aQ,fJ⟩:=aX;rw[Am] at aQ;obtain ⟨y,hy,rfl⟩:=aQ;obtain ⟨k1,k2⟩:=ziC _ _ _ _ _ fJ;have:=h.dangV s' fE cE dh (ze.2 ⟨y,hy,k1⟩);simp[k2,this]
    | arr z' aL=>simp[frzB] at he
  ·split at ab
   ·cases ab
   ·rename_i ah;obtain ⟨k1,k2,k3,k4⟩:=h.dom s' b ab;exact ⟨by simp[ah,k1],k2,fun hh=>hh.elim k3 fun e=>ah (h.inj s' s b ab e),k4⟩
  ·split at h1
   ·cases h1
   ·split at h2
    ·cases h2
    ·exact h.inj s1 s2 b h1 h2
  ·rcases ao with ao | ao
   ·exact h.Alt b ao
   ·exact (h.dom s b ao).2.1
  ·rcases ao with ao | ao
   ·exact h.Asub b ao
   ·exact .inr (h.dom s b ao).2.2.2
  ·have ah:s'≠s:=fun e=>by rw[e,da] at ab;cases ab
   exact ⟨⟨by simp[ah],fun b cs el _ hb=>⟨cs,hb,rfl⟩⟩,fun z es he=>⟨es,by simp[ah,he,frzB],rfl⟩⟩
  ·simp only[cT,if_neg ah];cases hq:st.hp s' with
   | none=>simp
   | some b0=>cases b0<;>simp[frzB]
 ·rename_i hn;refine ⟨A,σ,h,fun _ h=>h,fun b hb _ => ?_,fun s' _=>⟨rfl,rfl⟩⟩;unfold cT at hb;split at hb
  ·rename_i z es he;exact absurd he (hn z es)
  ·cases hb
def SRel.freezeL:∀ (l:List Nat) {A:Nat->Prop} {σ:Nat->Option Nat} {st:ASt},SRel S A0 O w0 A σ w st tm->zdV l=true->∃ A' σ',SRel S A0 O w0 A' σ' w (st.freezeL l) tm∧(∀ b,A b->A' b) ∧
  (∀ s∈l,∀ b,cT st.hp s=true->σ s=some b->A' b)
 | [],A,σ,st,h,_=>⟨A,σ,h,fun _ h=>h,by simp⟩
 | s :: r,A,σ,st,h,hl=>by
  simp only[zdV,A6,Al,AN] at hl;obtain ⟨A1,σ1,h1,m1,k1,k2⟩:=h.freeze s hl.1;obtain ⟨A2,σ2,h2,m2,k3⟩:=SRel.freezeL r h1 hl.2;refine ⟨A2,σ2,h2,fun b hb=>m2 b (m1 b hb),fun s' ab b ha hs => ?_⟩;by_cases e:s'=s
  ·subst e;exact m2 b (k1 b ha hs)
  ·obtain ⟨e1,e2⟩:=k2 s' e;rcases Ap.1 ab with ab | ab
   ·exact absurd ab e
   ·exact k3 s' ab b (e2.trans ha) (e1.trans hs)
end
end
section
open Go Go.RowKit
section
variable {S:Seat} {A0:Nat->Prop} {O:Hnd} {w0:World} {A:Nat->Prop} {σ:Nat->Option Nat} {w:World} {st aa:ASt} {tm:Array Value} {df:List Deferred} {o:Oper} {v:AV} {d:Nat}
def zgj (h:SRel S A0 O w0 A σ w st tm) (hd:st.hp d=none) {cs:List AV} {y:Value} {e:TypeId} (hr:(execOp (Act.eval ⟨tm,df⟩) o).run S.P w=.ok (.value (.pointer (some ⟨w.heap.size,0,none⟩))) (w.alloc (.cells y.cells e)))
  (h1:cs.length=y.cells.size) (h2:∀ (i:Nat) (a:AV),cs[i]? = some a->VR S A σ w a (y.cells.getD i undef)) (h3:∀ s∈AV.refsL cs,st.hp s≠none) :
  yS S A0 O w0 w tm df o (.pv d 0) (st.setH d (some (.var cs))):=by
 refine ⟨_,_,A,_,hr,h.newBlk (vs:=y.cells) (el:=e) (blk:=.var cs) hd (by rw[Blk.refs];exact h3) ?_,.inl ⟨_,rfl,.pv (qo _ _ _),fun s hs => ?_⟩⟩
 ·refine ⟨w.heap.size,y.cells,e,qo _ _ _,heap_alloc_new w _,by omega,fun i x hx=>(h2 i x hx).mono (fun _ h=>h) (fun b hb=>heap_alloc_old w _ b (h.Alt b hb)) fun s hs => ?_⟩;have ab:=h3 s (ze.2 ⟨x,Ad hx,hs⟩);have ah:s≠d:=fun e=>ab (e ▸ hd);exact ⟨zbJ _ _ _ ah,fun b cs bC hb hc=>⟨cs,by rw[heap_alloc_old w _ b (h.dom s b hb).2.1];exact hc,rfl⟩⟩
 ·rw[AV.refs,Ah] at hs;subst hs;simp[ASt.setH,upd]
def op_box (h:SRel S A0 O w0 A σ w st tm) {e:TypeId} {x:Operand} {x':AOpd} (ho:o.op=.box e x) (h1:ql S x=some x') (ha:aop (.box x') d st=some (v,aa)):yS S A0 O w0 w tm df o v aa:=by
 have g1:=h.ev (df:=df) h1;simp only[aop] at ha;split at ha
 ·rename_i cs al hd;simp only[Option.some.injEq,Prod.mk.injEq] at ha;obtain ⟨rfl,rfl⟩:=ha;obtain ⟨k1,k2,k3,k4⟩:=g1.rel.cells al;exact zgj h hd (y:=Act.eval ⟨tm,df⟩ x) (e:=e) (by simp[execOp,ho,Instr.box,newVar,newRow]) k1 k2 fun s hs=>g1.dang s ((k4 s).1 hs)
 ·cases ha
def jJ {P:Program} {t:TypeId} {l:List Value} (h:zfg P t=some l):∃ i z,P.info? t=some i∧i.zero=some z∧z.cells.toList=l∧z.cells.size=i.size∧0 < i.size∧∀ x∈l,wE x=true:=by
 unfold zfg at h;split at h
 ·rename_i i hi;split at h
  ·rename_i z hz;split at h
   ·rename_i hc;cases h;exact ⟨i,z,hi,hz,rfl,hc.1,hc.2.1,Af.1 hc.2.2⟩
   ·cases h
  ·cases h
 ·cases h
def zia {z:Value} (i:Nat) (a:AV) (hi:(z.cells.toList.map AV.v)[i]? = some a):VR S A σ w a (z.cells.getD i undef):=by simp only[As,Ag] at hi;obtain ⟨y,hy,rfl⟩:=hi;have:z.cells.getD i undef=y:=(by rw[Ao];simp only[BB] at hy;rw[hy];rfl);rw[this];exact .of0 (.v y)
def refsL_v (l:List Value):AV.refsL (l.map AV.v)=[]:=by
 induction l with
 | nil=>rfl
 | cons x r ih=>simp[AV.refsL,AV.refs,ih]
def op_alloc (h:SRel S A0 O w0 A σ w st tm) {e:TypeId} {l:List Value} (ho:o.op=.alloc e) (hz:zfg S.P e=some l) (ha:aop (.alloc l) d st=some (v,aa)):yS S A0 O w0 w tm df o v aa:=by
 obtain ⟨i,z,k1,k2,rfl,k4,k5,_⟩:=jJ hz;simp only[aop] at ha;split at ha
 ·rename_i hd;simp only[Option.some.injEq,Prod.mk.injEq] at ha;obtain ⟨rfl,rfl⟩:=ha;exact zgj h hd (y:=z) (e:=e) (by simp[execOp,ho,Instr.alloc,zeroValue,typeInfo,k1,k2,newVar,newRow]) (by simp) (fun i a hi=>zia i a hi) (by rw[refsL_v];simp)
 ·cases ha
def jt {cs new:List AV} {off:Nat} (h:off+new.length<=cs.length):(qG cs off new).length=cs.length:=by simp[qG];omega
def jA {cs new:List AV} {off:Nat} (h:off+new.length<=cs.length) (i:Nat):(qG cs off new)[i]? = if off<=i∧i < off+new.length then new[i - off]? else cs[i]?:=by
 have ht:(cs.take off).length=off:=by simp;omega
 unfold qG;by_cases h1:i < off
 ·rw[if_neg (by omega),AK,Ax (by omega),AX h1]
 ·by_cases h2:i < off+new.length
  ·rw[if_pos (by omega),AK,AF (by omega),ht,Ax (by omega)]
  ·rw[if_neg (by omega),AF (by simp;omega),Bu];congr 1;simp;omega
def zf_list (off:Nat):∀ (l:List Value) (k:Nat) (arr:Array Value),off+k+l.length<=arr.size ->
  ((l.zipIdx k).foldl (fun cs p=>cs.setIfInBounds (off+p.2) p.1) arr).size=arr.size ∧
  ∀ i,((l.zipIdx k).foldl (fun cs p=>cs.setIfInBounds (off+p.2) p.1) arr).getD i undef=if off+k<=i∧i < off+k+l.length then l.getD (i - (off+k)) undef else arr.getD i undef
 | [],k,arr,_=>by
  refine ⟨rfl,fun i => ?_⟩;simp only[List.zipIdx_nil,List.foldl_nil,Bs];rw[if_neg (by omega)]
 | x :: r,k,arr,h=>by
  simp only[Au] at h;obtain ⟨h1,h2⟩:=zf_list off r (k+1) (arr.setIfInBounds (off+k) x) (by simp;omega);simp only[List.zipIdx_cons,Bt];refine ⟨by rw[h1];simp,fun i => ?_⟩;rw[h2 i,yo _ _ _ _ _ (by omega)];simp only[Au];by_cases e1:off+(k+1)<=i∧i < off+(k+1)+r.length
  ·rw[if_pos e1,if_pos (by omega),show i - (off+k)=(i - (off+(k+1)))+1 by omega];rfl
  ·rw[if_neg e1];by_cases e2:i=off+k
   ·subst e2;rw[if_pos rfl,if_pos (by omega)];simp
   ·rw[if_neg e2,if_neg (by omega)]
def zf_arr (off:Nat) (vs arr:Array Value) (h:off+vs.size<=arr.size) :
  (vs.zipIdx.foldl (fun cs (c,j)=>cs.setIfInBounds (off+j) c) arr).size=arr.size ∧
  ∀ i,(vs.zipIdx.foldl (fun cs (c,j)=>cs.setIfInBounds (off+j) c) arr).getD i undef=if off<=i∧i < off+vs.size then vs.getD (i - off) undef else arr.getD i undef:=by
 have:=zf_list off vs.toList 0 arr (by simpa using h);rw[← Array.foldl_toList,Array.toList_zipIdx];refine ⟨this.1,fun i => ?_⟩;have h2:=this.2 i;simp only[Bv,C1] at h2;refine h2.trans ?_;congr 1;simp[Ao,List.getD]
def fill_ok {R:AV->Value->Prop} (place:Nat->Option (Nat×Nat)):∀ (ps:List (Nat×List AV)) (zero res:List AV) (rs:List (Nat×Value)) (arr:Array Value),
  zhL zero ps=some res->zero.length=arr.size->(∀ (i:Nat) (a:AV),zero[i]? = some a->R a (arr.getD i undef))->ps.length=rs.length ->
  (∀ (j:Nat) (p:Nat×List AV) (r:Nat×Value),ps[j]? = some p->rs[j]? = some r->place r.1=some (p.1,p.2.length)∧p.2.length=r.2.cells.size∧∀ (i:Nat) (a:AV),p.2[i]? = some a->R a (r.2.cells.getD i undef)) ->
  ∃ aw,Instr.fill place arr rs=some aw∧res.length=aw.size∧∀ (i:Nat) (a:AV),res[i]? = some a->R a (aw.getD i undef)
 | [],zero,res,rs,arr,hf,hl,hr,hn,_=>by
  cases rs with
  | nil=>simp only[zhL,Option.some.injEq] at hf;subst hf;exact ⟨arr,rfl,hl,hr⟩
  | cons=>simp at hn
 | (off,cs) :: ps,zero,res,rs,arr,hf,hl,hr,hn,hp=>by
  cases rs with
  | nil=>simp at hn
  | cons r rs =>
   obtain ⟨k1,k2,k3⟩:=hp 0 (off,cs) r rfl rfl;simp only at k1 k2 k3;simp only[zhL] at hf;split at hf
   ·rename_i hle;obtain ⟨z1,z2⟩:=zf_arr off r.2.cells arr (by omega);obtain ⟨aw,f1,f2,f3⟩:=fill_ok place ps (qG zero off cs) res rs _ hf (by rw[jt hle,z1];exact hl) (fun i a hi=>by
     rw[jA hle] at hi;rw[z2];split at hi
     ·rename_i hc;rw[if_pos (by omega)];exact k3 _ _ hi
     ·rename_i hc;rw[if_neg (by omega)];exact hr _ _ hi) (by simpa using hn) (fun j p r hj hk=>hp (j+1) p r (by simpa using hj) (by simpa using hk))
    refine ⟨aw, ?_,f2,f3⟩;obtain ⟨ri,rv⟩:=r;have k2':cs.length=rv.cells.size:=k2;simp only[Instr.fill,k1];rw[if_neg (by simp;omega)];exact f1
   ·cases hf
def zu {α β:Type} {f:α->Option β}:∀ {xs:List α} {ys:List β},zd f xs=some ys->xs.length=ys.length∧∀ (i:Nat) (y:β),ys[i]? = some y->∃ x,xs[i]? = some x∧f x=some y
 | [],ys,h=>by simp only[zd,Option.some.injEq] at h;subst h;exact ⟨rfl,by simp⟩
 | x :: xs,ys,h=>by
  simp only[zd] at h;split at h
  ·rename_i y bn hy bZ;cases h;obtain ⟨h1,h2⟩:=zu bZ;refine ⟨by simp[h1],fun i y' hi => ?_⟩;cases i with
   | zero=>simp at hi;subst hi;exact ⟨x,rfl,hy⟩
   | succ i=>simp at hi;obtain ⟨x',h3,h4⟩:=h2 i y' hi;exact ⟨x',by simpa using h3,h4⟩
  ·cases h
def zam {P:Program}:∀ (fs:List Field) (l:List Nat),zd (fun (f:Field)=>wu P f.type) fs=some l ->
  ∃ places,fs.mapM (fun f=>(P.info? f.type).map fun i=>(f.offset,i.size))=some places∧∀ (j:Nat) (f:Field) (n:Nat),fs[j]? = some f->wu P f.type=some n->places[j]? = some (f.offset,n)
 | [],l,_=>⟨[],rfl,by simp⟩
 | f :: fs,l,h=>by
  simp only[zd] at h;split at h
  ·rename_i y ys hy bZ;obtain ⟨places,h1,h2⟩:=zam fs ys bZ;obtain ⟨i,hi,rfl⟩:∃ i,P.info? f.type=some i∧i.size=y:=by simpa[wu] using hy
   refine ⟨(f.offset,i.size) :: places,by simp[CT,hi,h1],fun j f' n hj hn => ?_⟩;cases j with
   | zero=>simp at hj;subst hj;simp[wu,hi] at hn;subst hn;rfl
   | succ j=>simp at hj;simpa using h2 j f' n hj hn
  ·cases h
def op_build (h:SRel S A0 O w0 A σ w st tm) {t:TypeId} {ps:Array (Nat×Operand)} {fs:Array Field} {zero:List Value} {l:List (Nat×Nat×AOpd)} {szs:List Nat} (ho:o.op=.build t ps) (hu:S.P.underlying t=some (.struct fs))
  (hz:zfg S.P t=some zero) (hl:zd (fun (p:Nat×Operand)=>match zdq S.P t p.1,ql S p.2 with | some f,some x=>(match wu S.P f.type with | some n=>some (f.offset,n,x) | none=>none) | _,_=>none) ps.toList=some l)
  (hs:zd (fun (f:Field)=>wu S.P f.type) fs.toList=some szs) (ha:aop (.build zero l) d st=some (v,aa)):yS S A0 O w0 w tm df o v aa:=by
 obtain ⟨i,z,k1,k2,rfl,k4,k5,_⟩:=jJ hz;obtain ⟨places,p1,p2⟩:=zam _ _ hs;simp only[aop] at ha;split at ha
 ·rename_i pcs dV;split at ha
  ·rename_i res aK;simp only[Option.some.injEq,Prod.mk.injEq] at ha;obtain ⟨rfl,rfl⟩:=ha;obtain ⟨a1,a2⟩:=zu hl;obtain ⟨b1,b2⟩:=zu dV
   have main:=fill_ok (R:=fun a x=>Got S A σ w st a x) (fun x=>places[x]?) pcs (z.cells.toList.map AV.v) res (ps.toList.map fun p=>(p.1,Act.eval ⟨tm,df⟩ p.2)) z.cells aK (by simp)
    (fun i a hi=>⟨zia i a hi,fun s hs=>by have:=ze.2 ⟨a,Ad hi,hs⟩;rw[refsL_v] at this;cases this⟩) (by rw[An];omega)
    (fun j p r hj hr=>by
     obtain ⟨q,hq,bD⟩:=b2 j p hj;obtain ⟨q0,fo,cM⟩:=a2 j q hq;simp only[As,fo,AH,Option.some.injEq] at hr;subst hr;split at cM
     ·rename_i f x hf hx;split at cM
      ·rename_i n hn;cases cM;simp only at bD;split at bD
       ·rename_i cs al;split at bD
        ·rename_i hlen;cases bD;have g:=h.ev (df:=df) hx;obtain ⟨c1,c2,c3,c4⟩:=g.rel.cells al;refine ⟨?_,c1,fun i a hi=>⟨c2 i a hi,fun s hs=>g.dang s ((c4 s).1 (ze.2 ⟨a,Ad hi,hs⟩))⟩⟩;have hfj:fs.toList[q0.1]? = some f:=by simpa[zdq,hu] using hf
         simp only[hlen];exact p2 _ _ _ hfj hn
        ·cases bD
       ·cases bD
      ·cases cM
     ·cases cM)
   obtain ⟨aw,f1,f2,f3⟩:=main;refine .same h (rv:=.agg aw) ?_ ⟨.agg f2 fun i a hi=>(f3 i a hi).rel,fun s hs => ?_⟩
   ·have hb:S.P.built t (ps.map fun (i,x)=>(i,Act.eval ⟨tm,df⟩ x)).toList=some aw:=(by simp only[Program.built,k1,hu,k2,p1];simpa using f1);have:=run_build (P:=S.P) w t _ aw hb;simp[execOp,ho,this]
   ·rw[AV.refs,ze] at hs;obtain ⟨x,hx,hs⟩:=hs;obtain ⟨i,hi⟩:=AB.1 hx;exact (f3 i x hi).dang s hs
  ·cases ha
 ·cases ha
end
end
section
open Go Go.RowKit
section
variable {S:Seat} {A0:Nat->Prop} {O:Hnd} {w0:World} {A:Nat->Prop} {σ:Nat->Option Nat} {w:World} {st aa:ASt} {tm:Array Value} {df:List Deferred} {o:Oper} {v:AV} {d:Nat}
structure RowRel (R:AV->Value->Prop) (z:Nat) (es:List (List AV)) (arr:Array Value):Prop where
 size:arr.size=es.length * z
 each:∀ e∈es,e.length=z
 rel:∀ (i:Nat) (e:List AV) (c:Nat) (x:AV),es[i]? = some e->e[c]? = some x->R x (arr.getD (i * z+c) undef)
 one:∀ j,j < arr.size->(arr.getD j undef).oneCell'=true
def zgx {i c z n:Nat} (hi:i < n) (hc:c < z):i * z+c < n * z:=by have:(i+1) * z<=n * z:=AL _ hi;rw[A4] at this;omega
def zgv {i j c z:Nat} (h1:j * z<=i * z+c) (h2:i * z+c < j * z+z) (hc:c < z):i=j:=by
 rcases Nat.lt_trichotomy i j with h | h | h
 ·have:(i+1) * z<=j * z:=AL _ h;rw[A4] at this;omega
 ·exact h
 ·have:(j+1) * z<=i * z:=AL _ h;rw[A4] at this;omega
def zbt {R:AV->Value->Prop} {z:Nat}:∀ (ps:List (Nat×List AV)) (es:List (List AV)) (rs:List (Nat×Value)) (arr:Array Value),RowRel R z es arr->ps.length=rs.length ->
  (∀ (j:Nat) (p:Nat×List AV) (r:Nat×Value),ps[j]? = some p->rs[j]? = some r->r.1=p.1∧p.1 < es.length∧p.2.length=z∧p.2.length=r.2.cells.size∧(∀ (i:Nat) (a:AV),p.2[i]? = some a->R a (r.2.cells.getD i undef)) ∧
   ∀ x∈r.2.cells.toList,x.oneCell'=true) ->
  ∃ aw,Instr.fill (fun i=>some (i * z,z)) arr rs=some aw∧RowRel R z (ps.foldl (fun es p=>es.set p.1 p.2) es) aw
 | [],es,rs,arr,h,hn,_=>by
  cases rs with
  | nil=>exact ⟨arr,rfl,h⟩
  | cons=>simp at hn
 | (k,cs) :: ps,es,rs,arr,h,hn,hp=>by
  cases rs with
  | nil=>simp at hn
  | cons r rs =>
   obtain ⟨ri,rv⟩:=r;obtain ⟨k1,k2,k3,k4,k5,k6⟩:=hp 0 (k,cs) (ri,rv) rfl rfl;simp only at k1 k2 k3 k4 k5 k6;subst k1;have hle:ri * z+rv.cells.size<=arr.size:=(by rw[h.size,← k4,k3];have:(ri+1) * z<=es.length * z:=AL _ k2;rw[A4] at this;omega);obtain ⟨z1,z2⟩:=zf_arr (ri * z) rv.cells arr hle;have h':RowRel R z (es.set ri cs) (rv.cells.zipIdx.foldl (fun cs (c,j)=>cs.setIfInBounds (ri * z+j) c) arr):=by
    refine ⟨by rw[z1,h.size];simp,fun e he => ?_,fun i e c x hi hc => ?_,fun j hj => ?_⟩
    ·rcases Cx he with he | rfl
     ·exact h.each e he
     ·exact k3
    ·rw[z2];by_cases lZ:ri=i
     ·subst lZ;rw[Cb k2] at hi;cases hi;have bw:=(Ac.1 hc).1;rw[if_pos (by omega),show ri * z+c - ri * z=c by omega];exact k5 c x hc
     ·have ah:=lZ;rw[Ck lZ] at hi;have mC:=h.each e (Ad hi);have bw:=(Ac.1 hc).1;rw[if_neg (fun hh=>ah (zgv hh.1 (by omega) (by omega)).symm)];exact h.rel i e c x hi hc
    ·rw[z2];rw[z1] at hj;by_cases hc:ri * z<=j∧j < ri * z+rv.cells.size
     ·rw[if_pos hc];apply k6;have:j - ri * z < rv.cells.size:=by omega
      rw[CW];simp[Array.getD,this]
     ·rw[if_neg hc];exact h.one j hj
   obtain ⟨aw,f1,f2⟩:=zbt ps (es.set ri cs) rs _ h' (by simpa using hn) (fun j p r hj hk=>by simpa using hp (j+1) p r (by simpa using hj) (by simpa using hk));refine ⟨aw, ?_,f2⟩;simp only[Instr.fill];rw[if_neg (by simp;omega)];exact f1
def zhb {R:AV->Value->Prop} {z:Value} {n:Nat} (hs:0 < z.cells.size) (hR:∀ x∈z.cells.toList,R (.v x) x) (h1:∀ x∈z.cells.toList,x.oneCell'=true) :
  RowRel R z.cells.size (List.replicate n (z.cells.toList.map AV.v)) ((Array.range (n * z.cells.size)).map (z.cells[· % z.cells.size]!)):=by
 have get:∀ j,j < n * z.cells.size->((Array.range (n * z.cells.size)).map (z.cells[· % z.cells.size]!)).getD j undef=z.cells[j % z.cells.size]'(CJ _ hs):=(by intro j hj;have hm:=CJ j hs;simp[Array.getD,hj,getElem!_pos,hm]);refine ⟨by simp,fun e he => ?_,fun i e c x hi hc => ?_,fun j hj => ?_⟩
 ·rw[List.mem_replicate] at he;rw[he.2];simp
 ·rw[CH] at hi;split at hi
  ·rename_i b8;cases hi;have bw:=(Ac.1 hc).1;simp only[An,C1] at bw;simp only[As,Ag] at hc;obtain ⟨y,hy,rfl⟩:=hc;rw[get _ (zgx b8 bw)];have me:(i * z.cells.size+c) % z.cells.size=c:=by rw[Cn,Nat.mul_add_mod];exact CG bw
   have hyv:z.cells[(i * z.cells.size+c) % z.cells.size]'(CJ _ hs)=y:=by
    have:z.cells[c]? = some y:=by simpa using hy
    obtain ⟨h2,h3⟩:=Bi.1 this;simp only[me,h3]
   rw[hyv];exact hR y (Ad hy)
  ·cases hi
 ·simp only[Array.size_map,Array.size_range] at hj;rw[get j hj];exact h1 _ (by rw[CW];exact Array.getElem_mem _)
def RowRel.blk {z:Nat} {es:List (List AV)} {arr:Array Value} {w':World} {σ':Nat->Option Nat} {s b:Nat} {el:TypeId} (h:RowRel (VR0 S A w') z es arr) (hσ:σ' s=some b) (hb:w'.heap[b]? = some (.cells arr el (0,0))) :
  ws S A σ' w' s (.arr z es) :=
 ⟨h.each,.inr ⟨b,arr,el,hσ,hb,by rw[h.size];exact AJ _,fun j hj=>h.one j (by rw[h.size];exact hj),h.rel⟩⟩
def RowRel.imp {R R':AV->Value->Prop} {z:Nat} {es:List (List AV)} {arr:Array Value} (h:RowRel R z es arr) (hr:∀ x v,R x v->R' x v):RowRel R' z es arr :=
 ⟨h.size,h.each,fun i e c x hi hc=>hr _ _ (h.rel i e c x hi hc),h.one⟩
def zas {x:Value} (h:wE x=true):x.oneCell'=true:=by cases x<;>simp_all[wE,Value.oneCell']
def yG (h:SRel S A0 O w0 A σ w st tm) {A':Nat->Prop} (hA:∀ b,A b->A' b) {x y:AV} {v:Value} (hv:VR S A σ w x v) (hs:qh st.hp x=some y) (hr:∀ s∈x.refs,∀ b,σ s=some b->A' b) :
  VR0 S A' w y v∧∀ s∈x.refs,cT st.hp s=true:=by
 unfold qh at hs;split at hs
 ·rename_i s z i off;split at hs
  ·rename_i z' es hb;split at hs
   ·rename_i hz;split at hs
    ·rename_i cs al;cases hs;have:=VR.frz h hb hv;simp only[Ab.frz,if_true,hz,al] at this;refine ⟨?_,fun s' ab=>by rw[AV.refs,Ah] at ab;subst ab;simp[cT,hb]⟩;cases this with
     | of0 h0=>exact h0.mono (fun b (hb:A b∨σ s=some b)=>hb.elim (hA b) (hr s (by simp[AV.refs]) b)) (fun _ _=>rfl)
    ·cases hs
   ·cases hs
  ·cases hs
 ·rename_i s z off len;split at hs
  ·rename_i z' es hb;split at hs
   ·rename_i hz;cases hs;have:=VR.frz h hb hv;simp only[Ab.frz,if_true,hz.1,hz.2,and_self] at this;refine ⟨?_,fun s' ab=>by rw[AV.refs,Ah] at ab;subst ab;simp[cT,hb]⟩;cases this with
    | of0 h0=>exact (hz.1 ▸ h0).mono (fun b (hb:A b∨σ s=some b)=>hb.elim (hA b) (hr s (by simp[AV.refs]) b)) (fun _ _=>rfl)
   ·cases hs
  ·cases hs
 ·cases hs
 ·split at hs
  ·rename_i he;cases hs;have fA:x.refs=[]:=by simpa using he
   exact ⟨(hv.to0 fA).mono hA (fun _ _=>rfl),by rw[fA];simp⟩
  ·cases hs
def zbW:∀ (l:List Nat) {st:ASt} {d:Nat},st.hp d=none->(st.freezeL l).hp d=none
 | [],_,_,h=>h
 | s :: r,st,d,h=>by
  refine zbW r ?_;unfold ASt.freeze;split
  ·simp[h]
  ·exact h
def jK {P:Program} {t:TypeId} {p:TypeId×Nat} (h:eE P t=some p):P.underlying t=some (.slice p.1)∧∃ i,P.info? p.1=some i∧i.size=p.2∧0 < i.size∧i.size<=128∧i.bytes<=zjz i.size:=by
 unfold eE at h;split at h
 ·rename_i e hu;split at h
  ·rename_i i hi;split at h
   ·rename_i hc;cases h;exact ⟨hu,i,hi,rfl,hc.1,hc.2.1,hc.2.2⟩
   ·cases h
  ·cases h
 ·cases h
def run_bsl {P:Program} (w:World) (t e:TypeId) (len:Nat) (parts:Array (Nat×Value)) (cells:Array Value) (ie:TypeInfo) (z:Value)
  (hu:P.underlying t=some (.slice e)) (oC:P.info? e=some ie) (hz:ie.zero=some z) (fL:¬ len * ie.size > 2 ^ 24)
  (h:Instr.fill (fun i=>some (i * ie.size,ie.size)) ((Array.range (len * ie.size)).map (z.cells[· % z.cells.size]!)) parts.toList=some cells) :
  (Instr.buildSlice t len parts).run P w=.ok (.slice (some ⟨w.heap.size,0,none⟩) len len) (w.alloc (.cells cells e)):=by
 by_cases bh:len * ie.size=0
 ·rw[bh] at h;have h0:(Array.range 0).map (z.cells[· % z.cells.size]!)=#[]:=by rw[Array.map_eq_empty_iff];exact Cg (by simp)
  rw[h0] at h;simp[Instr.buildSlice,run_underlying hu,Go.sizeOf,typeInfo,oC,bh,newRow];have h2:∀ f:Nat->Value,Array.map f (Array.range 0)=#[]:=fun f=>by rw[Array.map_eq_empty_iff];exact Cg (by simp)
  simp[h2,h]
 ·exact run_buildSlice w t e len parts cells ie z hu oC hz fL bh h
def op_bslice (h:SRel S A0 O w0 A σ w st tm) {t e:TypeId} {i:TypeInfo} {z:Value} {len:Nat} {ps:Array (Nat×Operand)} {l:List (Nat×AOpd)} {frz:Bool} (ho:o.op=.buildSlice t len ps) (hu:S.P.underlying t=some (.slice e)) (hi:S.P.info? e=some i) (hz:i.zero=some z)
  (ca:z.cells.size=i.size) (bh:0 < i.size) (bB:i.size<=128) (aY:∀ x∈z.cells.toList,wE x=true) (hl:zd (fun (p:Nat×Operand)=>if p.1 < len then (ql S p.2).map fun x=>(p.1,x) else none) ps.toList=some l)
  (hlen:len<=4096) (ha:aop (.bslice frz i.size z.cells.toList len l) d st=some (v,aa)):yS S A0 O w0 w tm df o v aa:=by
 simp only[aop] at ha;split at ha
 ·rename_i pcs hd dV;split at ha
  ·simp only[Option.some.injEq,Prod.mk.injEq] at ha;obtain ⟨rfl,rfl⟩:=ha;obtain ⟨A1,σ1,h1,m1,m2⟩:=h.freezeL (qX st l) (by
    rename_i cp;rcases cp with cp | cp
    ·exact cp.2
    ·rw[cp];rfl)
   obtain ⟨a1,a2⟩:=zu hl;obtain ⟨b1,b2⟩:=zu dV;have zr:=zhb (R:=VR0 S A1 w) (z:=z) (n:=len) (by omega) (fun x _=>.v x) (fun x hx=>zas (aY x hx));rw[ca] at zr
   obtain ⟨aw,f1,f2⟩:=zbt (R:=VR0 S A1 w) (z:=i.size) pcs (List.replicate len (z.cells.toList.map AV.v)) (ps.toList.map fun p=>(p.1,Act.eval ⟨tm,df⟩ p.2)) _ zr (by rw[An];omega)
    (fun j p r hj hr=>by
     obtain ⟨q,hq,bD⟩:=b2 j p hj;obtain ⟨q0,fo,cM⟩:=a2 j q hq;simp only[As,fo,AH,Option.some.injEq] at hr;subst hr;split at cM
     ·rename_i ak;simp only[Ag] at cM;obtain ⟨x,hx,rfl⟩:=cM;split at bD
      ·rename_i fE gl;split at bD
       ·rename_i cs al;split at bD
        ·rename_i bw;cases bD;have g:=h.ev (df:=df) hx;obtain ⟨c1,c2,c3,c4⟩:=g.rel.cells gl;obtain ⟨d1,d2⟩:=zu al;refine ⟨rfl,by simpa using ak,bw,by simp only;omega,fun i a hi => ?_,c3⟩;obtain ⟨x0,aq,az⟩:=d2 i a hi;have eU:∀ s∈x0.refs,s∈qX st l:=fun s hs=>(by unfold qX;rw[ze];exact ⟨st.ev x,Am.2 ⟨_,Ad hq,rfl⟩,(c4 s).1 (ze.2 ⟨x0,Ad aq,hs⟩)⟩);have arrs:=(yG h (A':=fun _=>True) (fun _ _=>trivial) (c2 i x0 aq) az (fun _ _ _ _=>trivial)).2;exact (yG h m1 (c2 i x0 aq) az fun s hs b hb=>m2 s (eU s hs) b (arrs s hs) hb).1
        ·cases bD
       ·cases bD
      ·cases bD
     ·cases cM)
   have ay:=run_bsl (P:=S.P) w t e len (ps.map fun (i,x)=>(i,Act.eval ⟨tm,df⟩ x)) aw i z hu hi hz (by
     have:len * i.size<=4096 * 128:=BH hlen bB
     omega) (by rw[ca];simpa using f1)
   have kU:RowRel (VR0 S A1 (w.alloc (.cells aw e))) i.size (pcs.foldl (fun es p=>es.set p.1 p.2) (List.replicate len (z.cells.toList.map AV.v))) aw :=
    f2.imp fun x v hx=>hx.mono (fun _ h=>h) fun b hb=>heap_alloc_old w _ b (h1.Alt b hb)
   have cq:(pcs.foldl (fun es p=>es.set p.1 p.2) (List.replicate len (z.cells.toList.map AV.v))).length=len:=by
    have:∀ (ps:List (Nat×List AV)) (es:List (List AV)),(ps.foldl (fun es p=>es.set p.1 p.2) es).length=es.length:=by
     intro ps
     induction ps with
     | nil=>intro es;rfl
     | cons p ps ih=>intro es;simp only[Bt];rw[ih];simp
    rw[this];simp
   refine ⟨.value (.slice (some ⟨w.heap.size,0,none⟩) len len),_,A1,_,by simp only[execOp,ho,Sem.run_bind,ay,Result.andThen_ok,Sem.run_pure],h1.newBlk (vs:=aw) (el:=e) (zbW _ hd) (by simp[Blk.refs]) (kU.blk (qo _ _ _) (heap_alloc_new w _)),.inl ⟨_,rfl, ?_,fun s hs => ?_⟩⟩
   ·refine .lsl (cs:=aw) (el:=e) (qo _ _ _) (AJ _) (fun _=>by simp) (heap_alloc_new w _) (by rw[kU.size,cq];simp) (by unfold maxLen;omega)
   ·rw[AV.refs,Ah] at hs;subst hs;simp[ASt.setH,upd]
  ·cases ha
 ·cases ha
def op_mksl (h:SRel S A0 O w0 A σ w st tm) {t e:TypeId} {i:TypeInfo} {z:Value} {n c:Operand} {n' c':AOpd} (ho:o.op=.makeSlice t n c) (hu:S.P.underlying t=some (.slice e)) (hi:S.P.info? e=some i) (hz:i.zero=some z)
  (ca:z.cells.size=i.size) (bh:0 < i.size) (bB:i.bytes<=zjz i.size) (aY:∀ x∈z.cells.toList,wE x=true) (h1:ql S n=some n') (h2:ql S c=some c')
  (ha:aop (.mksl i.size z.cells.toList n' c') d st=some (v,aa)):yS S A0 O w0 w tm df o v aa:=by
 have g1:=h.ev (df:=df) h1;have g2:=h.ev (df:=df) h2;simp only[aop] at ha;split at ha
 ·rename_i m k hd cQ cP;split at ha
  ·rename_i hc;obtain ⟨c1,c2,c3⟩:=hc;rw[cQ] at g1;rw[cP] at g2;have e1:=g1.rel.v_inv;have e2:=g2.rel.v_inv;simp only[Option.some.injEq,Prod.mk.injEq] at ha;obtain ⟨rfl,rfl⟩:=ha;have hb:(i.bytes:Int) * k<=281474976710656:=by
    have h3:=(jN (n:=k.toNat) (z:=i.size) (b:=i.bytes) (by omega) bB).2.2;have h4:((i.bytes * k.toNat:Nat):Int)=(i.bytes:Int) * k:=by rw[Int.natCast_mul,Cm (by omega)]
    omega
   have hk:k<=6000000000000:=by have:=(jN (n:=k.toNat) (z:=i.size) (b:=i.bytes) (by omega) bB).1;omega
   have hr:=run_make (P:=S.P) w t e i z hu hi hz .i64 .i64 m k c1 c2 hb (by omega);have cC:(k.toNat:Int)=k:=Cm (by omega);have zr:∀ w',RowRel (VR0 S A w') i.size (List.replicate k.toNat (z.cells.toList.map AV.v)) (madeCells z.cells (k.toNat * i.size)):=(by intro w';have:=zhb (R:=VR0 S A w') (z:=z) (n:=k.toNat) (by omega) (fun x _=>.v x) (fun x hx=>zas (aY x hx));rw[ca] at this;unfold madeCells;rw[ca];exact this);have nh:=zr (w.alloc (.cells (madeCells z.cells (k.toNat * i.size)) e));have aH:m.toNat * i.size<=(madeCells z.cells (k.toNat * i.size)).size:=by rw[size_madeCells];exact AL _ (by omega)
   have bW:ws S A (upd σ d (some w.heap.size)) (w.alloc (.cells (madeCells z.cells (k.toNat * i.size)) e)) d (.arr i.size (List.replicate m.toNat (z.cells.toList.map AV.v))):=by
    refine ⟨fun e he => ?_,.inr ⟨w.heap.size,_,e,qo _ _ _,heap_alloc_new w _,by simpa using aH,fun j hj=>nh.one j (by simp at hj;omega),fun a b cc x ha hb=>nh.rel a b cc x ?_ hb⟩⟩
    ·rw[List.mem_replicate] at he;rw[he.2];simp[ca]
    ·rw[CH] at ha ⊢;split at ha
     ·rw[if_pos (by omega)];exact ha
     ·cases ha
   refine ⟨.value (.slice (some ⟨w.heap.size,0,none⟩) m.toNat k.toNat),_,A,_,by simp only[execOp,ho,e1,e2,Sem.run_bind,hr,Result.andThen_ok,Sem.run_pure],h.newBlk (vs:=madeCells z.cells (k.toNat * i.size)) (el:=e) hd (by simp[Blk.refs]) bW,.inl ⟨_,rfl, ?_,fun s hs => ?_⟩⟩
   ·exact .lsl (qo _ _ _) (by omega) (fun _=>by simp) (heap_alloc_new w _) (by rw[size_madeCells];simp) (by unfold maxLen;omega)
   ·rw[AV.refs,Ah] at hs;subst hs;simp[ASt.setH,upd]
  ·cases ha
 ·cases ha
def op_store (h:SRel S A0 O w0 A σ w st tm) {t:TypeId} {a x:Operand} {a' x':AOpd} {z:Nat} (ho:o.op=.store t a x) (hs:wu S.P t=some z) (h1:ql S a=some a') (h2:ql S x=some x')
  (ha:aop (.store z a' x') d st=some (v,aa)):yS S A0 O w0 w tm df o v aa:=by
 have g1:=h.ev (df:=df) h1;have g2:=h.ev (df:=df) h2;obtain ⟨i,hi,rfl⟩:∃ i,S.P.info? t=some i∧i.size=z:=by simpa[wu] using hs
 simp only[aop] at ha;split at ha
 ·rename_i new aV;obtain ⟨c1,c2,c3,c4⟩:=g2.rel.cells aV;split at ha
  ·rename_i hnl
   have key:∀ b off (old:Array Value) el,Act.eval ⟨tm,df⟩ a=.pointer (some ⟨b,off,none⟩)->w.heap[b]? = some (.cells old el (0,0))->off+i.size<=old.size ->
     ∃ arr:Array Value,(execOp (Act.eval ⟨tm,df⟩) o).run S.P w=.ok .skip (w.setRow b arr)∧arr.size=old.size ∧
      ∀ j,arr.getD j undef=if off<=j∧j < off+i.size then (Act.eval ⟨tm,df⟩ x).cells.getD (j - off) undef else old.getD j undef:=by
    intro b off old el e hb hle;have bw:(Act.eval ⟨tm,df⟩ x).cells.toList.length=i.size:=by simp;omega
    have hr:=run_storeCells_at S.P b off el (Act.eval ⟨tm,df⟩ x).cells.toList 0 old w hb (by omega) c3;simp only[Bv] at hr;refine ⟨(old.toList.take off++(Act.eval ⟨tm,df⟩ x).cells.toList++old.toList.drop (off+(Act.eval ⟨tm,df⟩ x).cells.toList.length)).toArray, ?_, ?_,fun j => ?_⟩
    ·have aH:(Act.eval ⟨tm,df⟩ x).cells.size=i.size:=by omega
     simp only[execOp,ho,Instr.storeAt,e,Instr.sureAddr,storeVar,Go.sizeOf,typeInfo,Sem.run_bind,Sem.run_pure,Result.andThen_ok,run_program,hi,aH,ne_eq,not_true_eq_false,if_false,hr]
    ·simp;omega
    ·simp only[Ao,List.getElem?_toArray,AK];by_cases j1:j < off
     ·rw[if_neg (by omega),Ax (by simp;omega),AX j1];simp
     ·by_cases j2:j < off+i.size
      ·rw[if_pos (by omega),AF (by simp;omega),Ax (by simp;omega)];simp;congr 2;omega
      ·rw[if_neg (by omega),AF (by simp;omega),AF (by simp;omega),Bu];simp;congr 2;omega
   split at ha
   ·rename_i s off he;rw[he] at g1;split at ha
    ·rename_i cs hb;split at ha
     ·rename_i hle;simp only[Option.some.injEq,Prod.mk.injEq] at ha;obtain ⟨rfl,rfl⟩:=ha;obtain ⟨b,e,hσ⟩:=g1.rel.pv_inv;obtain ⟨b',old,el,k1,k2,k3,k4⟩:=h.hp _ _ hb;obtain rfl:b'=b:=Option.some.inj (k1.symm.trans hσ);obtain ⟨arr,r1,r2,r3⟩:=key b' off old el e k2 (by omega);have bJ:∀ s',zbG σ σ w (w.setRow b' arr) s':=fun s'=>yV w b' old arr el k2 r2 s';have hA:∀ c,A c->(w.setRow b' arr).heap[c]? = w.heap[c]?:=fun c hc=>setRow_other w b' c arr (fun e=>(h.dom s b' hσ).2.2.1 (e ▸ hc));refine ⟨_,_,A,σ,r1,h.setBlk hσ k2 r2 (fun s' ab => ?_) ⟨b',arr,el,hσ,setRow_heap w b' old arr el _ k2,by rw[jt (by omega),r2];exact k3,fun j y hj => ?_⟩ (fun z es _ he=>by rw[hb] at he;cases he),.inr ⟨rfl,rfl⟩⟩
      ·rw[Blk.refs,ze] at ab;obtain ⟨y,hy,bZ⟩:=ab;obtain ⟨j,hj⟩:=AB.1 hy;rw[jA (by omega)] at hj;split at hj
       ·exact g2.dang s' ((c4 s').1 (ze.2 ⟨y,Ad hj,bZ⟩))
       ·exact h.dangV s cs hb s' (ze.2 ⟨y,Ad hj,bZ⟩)
      ·rw[jA (by omega)] at hj;rw[r3];split at hj
       ·rename_i hc;rw[if_pos (by omega)];exact (c2 _ _ hj).mono (fun _ h=>h) hA fun s' _=>bJ s'
       ·rename_i hc;rw[if_neg (by omega)];exact (k4 _ _ hj).mono (fun _ h=>h) hA fun s' _=>bJ s'
     ·cases ha
    ·cases ha
   ·rename_i s z0 k off he;rw[he] at g1;split at ha
    ·rename_i z' es hb;split at ha
     ·rename_i cs al;split at ha
      ·rename_i hle;obtain ⟨rfl,hle,hnr⟩:=hle;simp only[Option.some.injEq,Prod.mk.injEq] at ha;obtain ⟨rfl,rfl⟩:=ha;obtain ⟨b,e,hσ⟩:=g1.rel.pe_inv;obtain ⟨k0,⟨k1,rfl⟩ | ⟨b',old,el,k1,k2,k3,k5,k4⟩⟩:=h.hp _ _ hb
       ·simp at al
       ·obtain rfl:b'=b:=Option.some.inj (k1.symm.trans hσ);have hcz:cs.length=z0:=k0 _ (Ad al);have hk:k < es.length:=(Ac.1 al).1;have bM:(k+1) * z0<=es.length * z0:=AL _ hk;rw[A4] at bM;obtain ⟨arr,r1,r2,r3⟩:=key b' (k * z0+off) old el e k2 (by omega);have hA:∀ c,A c->(w.setRow b' arr).heap[c]? = w.heap[c]?:=fun c hc=>setRow_other w b' c arr (fun e=>(h.dom s b' hσ).2.2.1 (e ▸ hc));have l9:∀ (j:Nat) (y:AV),new[j]? = some y->y.refs=[]:=(by intro j y hj;exact Ay.2 fun s' ab=>by have:=ze.2 ⟨y,Ad hj,ab⟩;rw[hnr] at this;cases this);refine ⟨_,_,A,σ,r1,h.setBlk hσ k2 r2 (by simp[Blk.refs]) ⟨fun e' fA => ?_,.inr ⟨b',arr,el,hσ,setRow_heap w b' old arr el _ k2,by rw[r2];simpa using k3,fun j hj => ?_,fun ii ee c y aJ hc => ?_⟩⟩ (fun z aL _ he=>by rw[hb] at he;cases he;exact ⟨_,rfl,by simp⟩),.inr ⟨rfl,rfl⟩⟩
        ·rcases Cx fA with fA | rfl
         ·exact k0 _ fA
         ·rw[jt (by omega)];exact hcz
        ·rw[r3];by_cases hc:k * z0+off<=j∧j < k * z0+off+i.size
         ·rw[if_pos hc];apply c3;have:j - (k * z0+off) < (Act.eval ⟨tm,df⟩ x).cells.size:=by omega
          rw[CW];simp[Array.getD,this]
         ·rw[if_neg hc];exact k5 j (by simpa using hj)
        ·rw[r3];by_cases iJ:k=ii
         ·subst iJ;rw[Cb hk] at aJ;cases aJ;rw[jA (by omega)] at hc;split at hc
          ·rename_i iP;rw[if_pos (by omega),show k * z0+c - (k * z0+off)=c - off by omega];exact ((c2 _ _ hc).to0 (l9 _ _ hc)).mono (fun _ h=>h) hA
          ·rename_i iP;rw[if_neg (by omega)];exact (k4 _ _ _ _ al hc).mono (fun _ h=>h) hA
         ·have ah:=iJ;rw[Ck iJ] at aJ;have mC:=k0 _ (Ad aJ);have bw:=(Ac.1 hc).1;rw[if_neg (fun hh=>ah (zgv (i:=ii) (j:=k) (c:=c) (z:=z0) (by omega) (by omega) (by omega)).symm)];exact (k4 _ _ _ _ aJ hc).mono (fun _ h=>h) hA
      ·cases ha
     ·cases ha
    ·cases ha
   ·cases ha
  ·cases ha
 ·cases ha
end
end
section
open Go Go.RowKit
section
variable {S:Seat} {A0:Nat->Prop} {O:Hnd} {w0:World} {A:Nat->Prop} {σ:Nat->Option Nat} {w:World} {st aa:ASt} {tm:Array Value} {df:List Deferred} {o:Oper} {v:AV} {d:Nat}
def Src (w:World) (y:Value) (m:Nat) (news:List Value):Prop :=
 ∃ b c,y=.slice b m c∧((b=none∧m=0∧news=[])∨∃ ad,b=some ad∧∀ j u,news[j]? = some u->w.cell? (ad.add j)=some u)
def zhp {P:Program} {size m:Nat} {y:Value} {news:List Value} (h:Src w y m news) (hl:news.length=m * size) (w':World) (hw:w'.heap=w.heap) :
  (Builtin.firstCells size m y).run P w'=.ok news.toArray w'∧∃ b c,y=.slice b m c:=by
 obtain ⟨b,c,rfl,⟨rfl,rfl,rfl⟩ | ⟨ad,rfl,h2⟩⟩:=h
 ·exact ⟨by simp[Builtin.firstCells],_,_,rfl⟩
 ·exact ⟨run_firstCells_some (P:=P) w' size m ad m c news hl (fun j u hj=>by have:=h2 j u hj;simpa[World.cell?,hw] using this),_,_,rfl⟩
def zfZ {P:Program} (t ty e:TypeId) (i:TypeInfo) (ht:P.underlying t=some (.slice e)) (hi:P.info? e=some i)
  (g n cap:Nat) (cur:Array Value) (el:TypeId) (hg:w.heap[g]? = some (.cells cur el (0,0))) {y:Value} {m:Nat} {news:List Value} (hy:Src w y m news) (hl:news.length=m * i.size) (h1:∀ u∈news,u.oneCell'=true)
  (aM:n+m<=cap) (bq:n * i.size+news.length<=cur.size) :
  (Builtin.append_ #[t,t] ty #[.slice (some ⟨g,0,none⟩) n cap,y]).run P w =
   .ok (.slice (some ⟨g,0,none⟩) (n+m) cap) (w.setRow g (cur.toList.take (n * i.size)++news++cur.toList.drop (n * i.size+news.length)).toArray):=by
 obtain ⟨hf,b,c,rfl⟩:=zhp (P:=P) hy hl w rfl;have nY:=run_storeCells_at P g (n * i.size) el news 0 cur w hg (by simpa using bq) h1;simp only[Bv] at nY;simp[Builtin.append_,run_underlying ht,Go.sizeOf,typeInfo,hi,Builtin.lenOf,aM,hf,Addr.add_lit,nY]
def zbO {P:Program} (t ty e:TypeId) (i:TypeInfo) (ht:P.underlying t=some (.slice e)) (hi:P.info? e=some i) {y:Value} (hy:Src w y 0 []) :
  (Builtin.append_ #[t,t] ty #[.slice none 0 0,y]).run P w=.ok (.slice none 0 0) w:=by
 obtain ⟨hf,b,c,rfl⟩:=zhp (P:=P) (size:=i.size) hy (by simp) w rfl;simp[Builtin.append_,run_underlying ht,Go.sizeOf,typeInfo,hi,Builtin.lenOf,hf]
def zbP {P:Program} (t ty e:TypeId) (i:TypeInfo) (z:Value) (ht:P.underlying t=some (.slice e)) (hi:P.info? e=some i) (hz:i.zero=some z)
  (a:Option Addr) (n cap:Nat) (olds:List Value) (eg:olds.length=n * i.size) (holds:(a=none∧olds=[])∨∃ ad,a=some ad∧∀ j v,olds[j]? = some v->w.cell? (ad.add j)=some v)
  {y:Value} {m:Nat} {news:List Value} (hy:Src w y m news) (hl:news.length=m * i.size) (hg:cap < n+m) (mW:((n+m:Nat):Int)<=9223372036854775807) (bq:Builtin.nextslicecap (n+m) cap * i.bytes<=281474976710656) :
  (Builtin.append_ #[t,t] ty #[.slice a n cap,y]).run P w =
   .ok (.slice (some ⟨w.heap.size,0,none⟩) (n+m) (grownCap w (n+m) cap e)) (w.drew.alloc (.cells (olds.toArray++news.toArray++Builtin.zeroCells z.cells (grownCap w (n+m) cap e - (n+m))) e)):=by
 have hn:¬ (n+m<=cap):=by omega
 have mV:¬ (9223372036854775807 < ((n:Int)+(m:Int))):=by omega
 have mY:¬ (281474976710656 < Builtin.nextslicecap (n+m) cap * i.bytes):=by omega
 obtain ⟨hf,b,c,rfl⟩:=zhp (P:=P) hy hl w.drew rfl;have hfo:(Builtin.firstCells i.size n (.slice a n cap)).run P w.drew=.ok olds.toArray w.drew:=by
  rcases holds with ⟨rfl,rfl⟩ | ⟨ad,rfl,h2⟩
  ·simp[Builtin.firstCells]
  ·exact run_firstCells_some (P:=P) w.drew i.size n ad n cap olds eg (by simpa using h2)
 simp[Builtin.append_,run_underlying ht,Go.sizeOf,typeInfo,zeroValue,hi,hz,Builtin.lenOf,hn,mV,mY,Question.forced,hf,hfo,newRow,grownCap];congr 2;apply Array.ext';simp[AK]
def zhO (h:SRel S A0 O w0 A σ w st tm) {z:Nat} {y:AV} {rv:Value} {ys:List (List AV)} (hv:VR S A σ w y rv) (he:zay st.hp z y=some ys) :
  ∃ news,Src w rv ys.length news∧news.length=ys.length * z∧(∀ e∈ys,e.length=z)∧(∀ u∈news,u.oneCell'=true)∧∀ (i:Nat) (e:List AV) (c:Nat) (x:AV),ys[i]? = some e->e[c]? = some x->VR0 S A w x (news.getD (i * z+c) undef):=by
 have mk:∀ (b off cap:Nat) (u:Nat->Value),rv=.slice (some ⟨b,off,none⟩) ys.length cap->(∀ e∈ys,e.length=z)->(∀ j,j < ys.length * z->w.cell? ⟨b,off+j,none⟩=some (u j))->(∀ j,j < ys.length * z->(u j).oneCell'=true) ->
   (∀ (i:Nat) (e:List AV) (c:Nat) (x:AV),ys[i]? = some e->e[c]? = some x->VR0 S A w x (u (i * z+c))) ->
   ∃ news,Src w rv ys.length news∧news.length=ys.length * z∧(∀ e∈ys,e.length=z)∧(∀ u∈news,u.oneCell'=true)∧∀ (i:Nat) (e:List AV) (c:Nat) (x:AV),ys[i]? = some e->e[c]? = some x->VR0 S A w x (news.getD (i * z+c) undef):=by
  intro b off cap u hr h0 h1 h2 h3;refine ⟨(List.range (ys.length * z)).map u,⟨_,_,hr,.inr ⟨_,rfl,fun j v hj => ?_⟩⟩,by simp,h0,fun v hv => ?_,fun i e c x hi hc => ?_⟩
  ·simp only[As,Ag] at hj;obtain ⟨k,hk,rfl⟩:=hj;obtain ⟨fZ,bu⟩:=Ac.1 hk;simp at fZ bu;subst bu;rw[Addr.add_lit];exact h1 j fZ
  ·rw[Am] at hv;obtain ⟨k,hk,rfl⟩:=hv;exact h2 k (by simpa using hk)
  ·have ak:i * z+c < ys.length * z:=zgx (Ac.1 hi).1 (by have:=(Ac.1 hc).1;have:=h0 e (Ad hi);omega);have:((List.range (ys.length * z)).map u).getD (i * z+c) undef=u (i * z+c):=by simp[List.getD,ak]
   rw[this];exact h3 i e c x hi hc
 unfold zay at he;split at he
 ·cases he;rw[hv.v_inv];exact ⟨[],⟨_,_,rfl,.inl ⟨rfl,rfl,rfl⟩⟩,by simp,by simp,by simp,by simp⟩
 ·cases he;rw[hv.v_inv];exact ⟨[],⟨_,_,rfl,.inr ⟨_,rfl,by simp⟩⟩,by simp,by simp,by simp,by simp⟩
 ·rename_i z' es;split at he
  ·rename_i hz;subst hz;cases he;rcases hv.sl_inv with ⟨rfl,hr⟩ | ⟨b,o',cap,u,hr,k1,k2,k3,k4,k5,k6⟩ | ⟨rfl,a,cap,hr⟩
   ·rw[hr];exact ⟨[],⟨_,_,rfl,.inl ⟨rfl,rfl,rfl⟩⟩,by simp,by simp,by simp,by simp⟩
   ·exact mk b o' cap u hr k3 k4 k5 k6
   ·rw[hr];exact ⟨[],⟨_,_,rfl,.inr ⟨_,rfl,by simp⟩⟩,by simp,by simp,by simp,by simp⟩
  ·cases he
 ·rename_i s z' off len;split at he
  ·rename_i eF es hb;split at he
   ·rename_i hc;cases he;obtain ⟨cB,cU,hle⟩:=hc;subst cB;subst cU;have hlen:((es.drop off).take len).length=len:=by simp;omega
    obtain ⟨k0,gH⟩:=h.hp _ _ hb;have h0:∀ e∈(es.drop off).take len,e.length=eF:=fun e he=>k0 e (BN (BF he));rcases hv.lsl_inv with ⟨rfl,rfl,_,hr⟩ | ⟨b,o',cap,cs,el,hr,k1,k2,k3,k4,k5,k6⟩
    ·rw[hr];exact ⟨[],⟨_,_,rfl,.inl ⟨rfl,by simp,rfl⟩⟩,by simp,by simp,by simp,by simp⟩
    ·rcases gH with ⟨j1,_⟩ | ⟨b',vs,bC,j1,j2,j3,j5,j4⟩
     ·rw[j1] at k1;cases k1
     ·obtain rfl:b'=b:=Option.some.inj (j1.symm.trans k1);by_cases eL:len=0
      ·subst eL;exact mk b' o' cap (fun _=>undef) (by rw[hlen];exact hr) h0 (by simp) (by simp) (by simp)
      ·have ho:=k3 (.inl (by omega));subst ho;have aH:len * eF+off * eF<=es.length * eF:=by rw[← A4];exact AL _ (by omega)
       refine mk b' (off * eF) cap (fun j=>vs.getD (off * eF+j) undef) (by rw[hlen];exact hr) h0 (fun j hj => ?_) (fun j hj => ?_) (fun i e c x hi hc => ?_)
       ·rw[hlen] at hj;have:off * eF+j < vs.size:=by omega
        simp[World.cell?,j2,this,Array.getD]
       ·rw[hlen] at hj;exact j5 _ (by omega)
       ·have ak:i < len:=by have:=(Ac.1 hi).1;omega
        rw[AX ak,Bu] at hi;have:=j4 _ _ _ _ hi hc
        rwa [A4,Bm] at this
   ·cases he
  ·cases he
 ·cases he
def zbC {R:AV->Value->Prop} {z:Nat} {es ys:List (List AV)} {olds news rest:List Value} (h1:∀ e∈es,e.length=z) (h2:∀ e∈ys,e.length=z) (fx:olds.length=es.length * z) (cm:news.length=ys.length * z)
  (r1:∀ (i:Nat) (e:List AV) (c:Nat) (x:AV),es[i]? = some e->e[c]? = some x->R x (olds.getD (i * z+c) undef)) (r2:∀ (i:Nat) (e:List AV) (c:Nat) (x:AV),ys[i]? = some e->e[c]? = some x->R x (news.getD (i * z+c) undef))
  (i:Nat) (e:List AV) (c:Nat) (x:AV) (hi:(es++ys)[i]? = some e) (hc:e[c]? = some x):R x ((olds++news++rest).getD (i * z+c) undef):=by
 have bw:=(Ac.1 hc).1;by_cases ak:i < es.length
 ·rw[Ax ak] at hi;have mC:=h1 e (Ad hi);have hb:i * z+c < olds.length:=by rw[fx];exact zgx ak (by omega)
  have:=r1 i e c x hi hc;simpa[List.getD,AK,Ax hb] using this
 ·rw[AF (by omega)] at hi;have mC:=h2 e (Ad hi);have fX:=(Ac.1 hi).1;have hb:(i - es.length) * z+c < news.length:=by rw[cm];exact zgx fX (by omega)
  have heq:i * z+c=olds.length+((i - es.length) * z+c):=(by rw[fx,← Bm,← A4];congr 2;omega);have:=r2 _ e c x hi hc;rw[heq,AK,Aw,AF (by omega),Ax (by omega)];simpa[List.getD] using this
def zV (l:List Value) (j:Nat):l.toArray.getD j undef=l.getD j undef:=by simp[Ao,List.getD]
def zbD {es_len ys_len z:Nat} {olds news rest:List Value} (fx:olds.length=es_len * z) (cm:news.length=ys_len * z) (h1:∀ u∈olds,u.oneCell'=true) (h2:∀ u∈news,u.oneCell'=true) (j:Nat) (hj:j < (es_len+ys_len) * z) :
  ((olds++news++rest).getD j undef).oneCell'=true:=by
 have hb:j < (olds++news).length:=by simp[fx,cm,← A4];exact hj
 have:(olds++news++rest).getD j undef=(olds++news)[j]:=by rw[Aw,Ax hb,Aa hb];rfl
 rw[this];rcases Ak.1 (AO hb) with h | h
 ·exact h1 _ h
 ·exact h2 _ h
def SRel.dropS (h:SRel S A0 O w0 A σ w st tm) {s:Nat} (da:zba s=false):SRel S A0 O w0 A (fun k=>if k=s then none else σ k) w (st.drop s) tm:=by
 show SRel S A0 O w0 A (fun k=>if k=s then none else σ k) w ((st.scrub s).setH s none) tm;have hq:=h.scrub s;have nr:∀ k,s ∉ ((st.scrub s).fr k).refs:=fun k=>nC s (st.fr k);have ks:∀ s',s'≠s->zbG σ (fun k=>if k=s then none else σ k) w w s':=fun s' ah=>⟨by simp[ah],fun b cs el _ hb=>⟨cs,hb,rfl⟩⟩;have nrB:∀ s' cs,(st.scrub s).hp s'=some (.var cs)->s ∉ AV.refsL cs:=by
  intro s' cs al hm;simp only[ASt.scrub,Ag] at al;obtain ⟨b0,_,he⟩:=al;cases b0 with
  | var fE =>simp only[zal,Blk.var.injEq] at he;subst he;rw[ze] at hm;obtain ⟨xx,hx,hm⟩:=hm;rw[Am] at hx;obtain ⟨yy,_,rfl⟩:=hx;exact nC s yy hm
  | arr=>simp[zal] at he
 refine ⟨fun k=>(hq.fr k).mono (fun _ h=>h) (fun _ _=>rfl) fun s' ab=>ks s' fun e=>nr k (e ▸ ab),fun s' blk ao => ?_,fun k s' ab => ?_,fun s' cs al dh aX => ?_,fun s' b ab => ?_,fun a1 a2 b b1 b2 => ?_,hq.Alt,hq.Asub,hq.keep,hq.kp.of fun s' ab hn => ?_,hq.Olt⟩
 ·simp only[ASt.setH,upd] at ao;split at ao
  ·cases ao
  ·rename_i ah;refine (hq.hp s' blk ao).mono (fun _ h=>h) (fun _ _=>rfl) (by simp[ah]) (fun _ _=>rfl) fun dh aX=>ks dh fun e => ?_;subst e;cases blk with
   | var cs=>exact nrB s' cs ao (by rw[Blk.refs] at aX;exact aX)
   | arr=>simp[Blk.refs] at aX
 ·simp only[ASt.setH,upd];split
  ·rename_i e;subst e;exact absurd ab (nr k)
  ·exact hq.dang k s' ab
 ·simp only[ASt.setH,upd] at al ⊢;split at al
  ·cases al
  ·split
   ·rename_i e;subst e;exact absurd aX (nrB s' cs al)
   ·exact hq.dangV s' cs al dh aX
 ·split at ab
  ·cases ab
  ·rename_i ah;obtain ⟨d1,d2⟩:=hq.dom s' b ab;exact ⟨by simp[ASt.setH,upd,ah];exact d1,d2⟩
 ·split at b1
  ·cases b1
  ·split at b2
   ·cases b2
   ·exact hq.inj a1 a2 b b1 b2
 ·have ah:s'≠s:=fun e=>by rw[e,da] at ab;cases ab
  exact ⟨ks s' ah,fun z es he=>⟨es,by simp only[ASt.setH,upd,if_neg ah];exact he,rfl⟩⟩
def op_app (h:SRel S A0 O w0 A σ w st tm) {t e:TypeId} {i:TypeInfo} {z:Value} {x y:Operand} {x' y':AOpd} (ho:o.op=.call { callee:=.builtin .append,args:=#[x,y],argTypes:=#[t,t] }) (hu:S.P.underlying t=some (.slice e)) (hi:S.P.info? e=some i) (hz:i.zero=some z)
  (ca:z.cells.size=i.size) (bB:i.bytes<=zjz i.size) (h1:ql S x=some x') (h2:ql S y=some y') (ha:aop (.app i.size x' y') d st=some (v,aa)):yS S A0 O w0 w tm df o v aa:=by
 have g1:=h.ev (df:=df) h1;have g2:=h.ev (df:=df) h2;have ay:(execOp (Act.eval ⟨tm,df⟩) o).run S.P w=((Builtin.append_ #[t,t] o.type #[Act.eval ⟨tm,df⟩ x,Act.eval ⟨tm,df⟩ y]).run S.P w).andThen fun a w'=>.ok (.value a) w':=(by simp[execOp,ho,resolve,invoke,builtin]);have fits:∀ n cap,n<=zeE i.size->cap < n->Builtin.nextslicecap n cap * i.bytes<=281474976710656:=fun n cap hn hc=>growslice_fits_wide hc (jN hn bB).2.1;simp only[aop] at ha;split at ha
 ·rename_i ys bZ;obtain ⟨news,s1,s2,s3,s4,s5⟩:=zhO h g2.rel bZ;split at ha
  ·rename_i he;rw[he] at g1;have e1:=g1.rel.v_inv;rw[e1] at ay;split at ha
   ·rename_i aM;split at ha
    ·rename_i hd;simp only[Option.some.injEq,Prod.mk.injEq] at ha;obtain ⟨rfl,rfl⟩:=ha;by_cases hm:ys.length=0
     ·have ir:ys=[]:=Bq hm;subst ir;obtain rfl:news=[]:=Bq (by simpa using s2);rw[zbO t o.type e i hu hi s1] at ay;have hσd:σ d=none:=by
       cases hq:σ d with
       | none=>rfl
       | some b=>exact absurd hd (h.dom d b hq).1
      refine ⟨_,w,A,σ,ay,⟨h.fr,fun s blk hb => ?_,fun k s hs => ?_,fun s cs hs s' ab => ?_,fun s b hs => ?_,h.inj,h.Alt,h.Asub,h.keep,h.kp.same (fun _ _=>⟨rfl,fun _ cs _ _ hb=>⟨cs,hb,rfl⟩⟩) (fun s z es he _=>by
       have ah:s≠d:=fun e=>by rw[e,hd] at he;cases he
       simp only[ASt.setH,upd,if_neg ah];exact he),h.Olt⟩,.inl ⟨_,rfl,.lslnil hσd,fun s hs => ?_⟩⟩
      ·simp only[ASt.setH,upd] at hb;split at hb
       ·rename_i e;subst e;cases hb;exact ⟨by simp,.inl ⟨hσd,rfl⟩⟩
       ·exact h.hp s blk hb
      ·simp only[ASt.setH,upd];split
       ·simp
       ·exact h.dang k s hs
      ·simp only[ASt.setH,upd] at hs ⊢;split
       ·simp
       ·split at hs
        ·cases hs
        ·exact h.dangV s cs hs s' ab
      ·obtain ⟨k1,k2⟩:=h.dom s b hs;refine ⟨?_,k2⟩;simp only[ASt.setH,upd];split
       ·simp
       ·exact k1
      ·rw[AV.refs,Ah] at hs;subst hs;simp[ASt.setH,upd]
     ·have hr:=zbP (P:=S.P) t o.type e i z hu hi hz none 0 0 [] (by simp) (.inl ⟨rfl,rfl⟩) s1 s2 (by omega) (by have:=(jN aM bB).1;omega) (by rw[A3];exact fits _ _ aM (by omega));rw[hr] at ay;simp only[A3] at ay;have hdr:=h.drew;have bP:=grownCap_ge w ys.length 0 e;have eA:=grownCap_le_maxLen w ys.length 0 e (by have:=(jN aM bB).1;unfold maxLen;omega);refine ⟨_,_,A,_,ay,hdr.newBlk (el:=e) hd (by simp[Blk.refs]) ⟨s3,.inr ⟨_,_,e,qo _ _ _,heap_alloc_new w.drew _, ?_,fun j hj => ?_,fun ii ee c xx aJ hc => ?_⟩⟩,.inl ⟨_,rfl, ?_,fun s hs => ?_⟩⟩
      ·simp only[Array.size_append,C4,Bs,size_zeroCells,ca,s2];omega
      ·have:=zbD (es_len:=0) (ys_len:=ys.length) (z:=i.size) (olds:=[]) (news:=news) (rest:=(Builtin.zeroCells z.cells (grownCap w ys.length 0 e - ys.length)).toList) (by simp) s2 (by simp) s4 j (by simpa using hj);have e2:([].toArray++news.toArray++Builtin.zeroCells z.cells (grownCap w ys.length 0 e - ys.length))=([]++news++(Builtin.zeroCells z.cells (grownCap w ys.length 0 e - ys.length)).toList).toArray:=by apply Array.ext';simp
       rw[e2,zV];exact this
      ·have:=zbC (R:=VR0 S A w) (es:=[]) (olds:=[]) (rest:=(Builtin.zeroCells z.cells (grownCap w ys.length 0 e - ys.length)).toList) (by simp) s3 (by simp) s2 (by simp) s5 ii ee c xx (by simpa using aJ) hc;have e2:([].toArray++news.toArray++Builtin.zeroCells z.cells (grownCap w ys.length 0 e - ys.length))=([]++news++(Builtin.zeroCells z.cells (grownCap w ys.length 0 e - ys.length)).toList).toArray:=by apply Array.ext';simp
       rw[e2,zV];exact (VR0.heap (w:=w) (w':=w.drew) rfl this).mono (fun _ h=>h) fun b hb=>heap_alloc_old w.drew _ b (h.Alt b hb)
      ·refine .lsl (qo _ _ _) bP (fun _=>by simp) (heap_alloc_new w.drew _) ?_ eA;simp only[Array.size_append,C4,Bs,size_zeroCells,ca,s2,A3,← A4];exact AL _ (by omega)
      ·rw[AV.refs,Ah] at hs;subst hs;simp[ASt.setH,upd]
    ·cases ha
   ·cases ha
  ·rename_i s z' n he;rw[he] at g1;split at ha
   ·rename_i eF es hb;split at ha
    ·rename_i hc;obtain ⟨bF,rfl,rfl,rfl,aM⟩:=hc;simp only[Option.some.injEq,Prod.mk.injEq] at ha;obtain ⟨rfl,rfl⟩:=ha;obtain ⟨k0,gH⟩:=h.hp _ _ hb;have hsc:=h.scrub s;have iS:(st.scrub s).hp s=some (.arr i.size es):=by simp[ASt.scrub,hb,zal]
     have cC:∀ e∈es++ys,e.length=i.size:=fun e he=>(Ak.1 he).elim (k0 e) (s3 e);have hlen:(es++ys).length=es.length+ys.length:=AQ
     -- a row in new memory,under the old name
     have grow:∀ (a:Option Addr) (cap:Nat) (olds:List Value),Act.eval ⟨tm,df⟩ x=.slice a es.length cap->olds.length=es.length * i.size->((a=none∧olds=[])∨∃ ad,a=some ad∧∀ j v,olds[j]? = some v->w.cell? (ad.add j)=some v) ->
       (∀ u∈olds,u.oneCell'=true)->(∀ (ii:Nat) (e:List AV) (c:Nat) (x:AV),es[ii]? = some e->e[c]? = some x->VR0 S A w x (olds.getD (ii * i.size+c) undef))->cap < es.length+ys.length ->
       yS S A0 O w0 w tm df o (.lsl s i.size 0 (es.length+ys.length)) ((st.scrub s).setH s (some (.arr i.size (es++ys)))):=by
      intro a cap olds e1 l1 l2 l3 l4 l5;have hr:=zbP (P:=S.P) t o.type e i z hu hi hz a es.length cap olds l1 l2 s1 s2 l5 (by have:=(jN aM bB).1;omega) (fits _ _ aM l5);rw[e1,hr] at ay;simp only[Result.andThen_ok] at ay;have bP:=grownCap_ge w (es.length+ys.length) cap e;have eA:=grownCap_le_maxLen w (es.length+ys.length) cap e (by have:=(jN aM bB).1;unfold maxLen;omega);generalize hzc:Builtin.zeroCells z.cells (grownCap w (es.length+ys.length) cap e - (es.length+ys.length))=zc at ay;have lN:zc.size=(grownCap w (es.length+ys.length) cap e - (es.length+ys.length)) * i.size:=by rw[← hzc,size_zeroCells,ca]
      have e2:(olds.toArray++news.toArray++zc)=(olds++news++zc.toList).toArray:=by apply Array.ext';simp
      rw[e2] at ay
      -- the state without the row
      have fW:SRel S A0 O w0 A (fun k=>if k=s then none else σ k) w.drew ((st.scrub s).setH s none) tm:=h.drew.dropS bF;have heq:((st.scrub s).setH s none).setH s (some (.arr i.size (es++ys)))=(st.scrub s).setH s (some (.arr i.size (es++ys))):=by
       simp only[ASt.setH];congr 1;funext k;simp only[upd]
       split<;>rfl
      rw[← heq];refine ⟨_,_,A,_,ay,fW.newBlk (el:=e) (by simp[ASt.setH,upd]) (by simp[Blk.refs]) ⟨cC,.inr ⟨_,_,e,qo _ _ _,heap_alloc_new w.drew _, ?_,fun j hj => ?_,fun ii ee c xx aJ hc => ?_⟩⟩,.inl ⟨_,rfl, ?_,fun s' ab => ?_⟩⟩
      ·simp[l1,s2,A4]
      ·rw[zV];exact zbD l1 s2 l3 s4 j (by rw[hlen] at hj;exact hj)
      ·rw[zV];exact (VR0.heap (w:=w) (w':=w.drew) rfl (zbC k0 s3 l1 s2 l4 s5 ii ee c xx aJ hc)).mono (fun _ h=>h) fun b hb=>heap_alloc_old w.drew _ b (h.Alt b hb)
      ·refine .lsl (qo _ _ _) bP (fun _=>by simp) (heap_alloc_new w.drew _) ?_ eA;simp only[C4,AQ,C1,l1,s2,lN,A3,← A4];exact AL _ (by omega)
      ·rw[AV.refs,Ah] at ab;subst ab;simp[ASt.setH,upd]
     rcases g1.rel.lsl_inv with ⟨_,hn0,kσ,e1⟩ | ⟨b,o',cap,cs,el,e1,j1,j2,j3,j4,j5,j6⟩
     ·have cq:es=[]:=Bq hn0;subst cq;by_cases hm:ys.length=0
      ·have ir:ys=[]:=Bq hm;subst ir;obtain rfl:news=[]:=Bq (by simpa using s2);rw[e1,zbO t o.type e i hu hi s1] at ay;have heq:(st.scrub s).setH s (some (.arr i.size ([]++[])))=st.scrub s:=by
        simp only[ASt.setH];cases hq:st.scrub s with
        | mk f p =>
         simp only;congr 1;funext k;simp only[upd];split
         ·rename_i e;subst e;rw[hq] at iS;exact iS.symm
         ·rfl
       rw[heq];exact ⟨_,w,A,σ,ay,hsc,.inl ⟨_,rfl,.lslnil kσ,fun s' ab=>by rw[AV.refs,Ah] at ab;subst ab;rw[iS];simp⟩⟩
      ·exact grow none 0 [] e1 (by simp) (.inl ⟨rfl,rfl⟩) (by simp) (by simp) (by simp;omega)
     ·rcases gH with ⟨q1,_⟩ | ⟨b',vs,bC,q1,q2,q3,q5,q4⟩
      ·rw[q1] at j1;cases j1
      ·obtain rfl:b'=b:=Option.some.inj (q1.symm.trans j1);rw[q2] at j4;simp only[Option.some.injEq,Obj.cells.injEq] at j4;obtain ⟨e3,e4,_⟩:=j4;subst e3;subst e4;have fu:=j3 (.inr rfl);simp only[Nat.zero_mul] at fu;subst fu;simp only[A3] at j5;have fU:(vs.toList.take (es.length * i.size)).length=es.length * i.size:=by simp;omega
       have bj:∀ j,j < es.length * i.size->(vs.toList.take (es.length * i.size)).getD j undef=vs.getD j undef:=(by intro j hj;simp[List.getD,Ao,AX hj]);have bU:∀ u∈vs.toList.take (es.length * i.size),u.oneCell'=true:=(by intro u hu;obtain ⟨j,hj⟩:=AB.1 hu;have eM:=(Ac.1 hj).1;rw[fU] at eM;have e3:=bj j eM;simp only[List.getD,hj,A7] at e3;rw[e3];exact q5 j eM);have hrel:∀ (ii:Nat) (e:List AV) (c:Nat) (x:AV),es[ii]? = some e->e[c]? = some x->VR0 S A w x ((vs.toList.take (es.length * i.size)).getD (ii * i.size+c) undef):=(by intro ii ee c xx aJ hc;rw[bj _ (zgx (Ac.1 aJ).1 (by have:=(Ac.1 hc).1;have:=k0 ee (Ad aJ);omega))];exact q4 _ _ _ _ aJ hc);by_cases hr:es.length+ys.length<=cap
       ·have bq:es.length * i.size+news.length<=vs.size:=(by rw[s2,← A4];exact AY (AL _ hr) j5);have hrr:=zfZ (P:=S.P) t o.type e i hu hi b' es.length cap vs bC q2 s1 s2 s4 hr bq;rw[e1,hrr] at ay;simp only[Result.andThen_ok] at ay;generalize aV:(vs.toList.take (es.length * i.size)++news++vs.toList.drop (es.length * i.size+news.length))=nw at ay;have aH:nw.toArray.size=vs.size:=by rw[← aV];simp;omega
        have hA:∀ c,A c->(w.setRow b' nw.toArray).heap[c]? = w.heap[c]?:=fun c hc=>setRow_other w b' c _ (fun e=>(h.dom s b' q1).2.2.1 (e ▸ hc));refine ⟨_,_,A,σ,ay,hsc.setBlk q1 q2 aH (by simp[Blk.refs]) ⟨cC,.inr ⟨b',_,bC,q1,setRow_heap w b' vs _ bC _ q2, ?_,fun j hj => ?_,fun ii ee c xx aJ hc => ?_⟩⟩ (fun z es _ _=>by simp_all),.inl ⟨_,rfl, ?_,fun s' ab => ?_⟩⟩
        ·rw[aH,hlen];exact AY (AL _ hr) j5
        ·rw[zV,← aV];exact zbD fU s2 bU s4 j (by rw[hlen] at hj;exact hj)
        ·rw[zV];have hx:=(zbC (rest:=vs.toList.drop (es.length * i.size+news.length)) k0 s3 fU s2 hrel s5 ii ee c xx aJ hc).mono (w':=w.setRow b' nw.toArray) (fun _ h=>h) hA;rw[aV] at hx;exact hx
        ·exact .lsl q1 hr (fun _=>by simp) (setRow_heap w b' vs _ bC _ q2) (by rw[aH];simpa using j5) j6
        ·rw[AV.refs,Ah] at ab;subst ab;simp[ASt.setH,upd]
       ·exact grow _ cap _ e1 fU (.inr ⟨_,rfl,fun j v hj=>by
         have eM:=(Ac.1 hj).1;rw[fU] at eM;rw[AX eM] at hj;rw[Addr.add_lit,A3,cell_of_row w b' j vs bC _ q2];simpa using hj⟩) bU hrel (by omega)
    ·cases ha
   ·cases ha
  ·cases ha
 ·cases ha
end
end
section
open Go Go.RowKit
section
variable {S:Seat} {A0:Nat->Prop} {O:Hnd} {w0:World} {A:Nat->Prop} {σ:Nat->Option Nat} {w:World} {st aa:ASt} {tm:Array Value} {df:List Deferred} {o:Oper} {v:AV} {d:Nat}
def SRel.grow (h:SRel S A0 O w0 A σ w st tm) {w':World} {A':Nat->Prop} (hk:KeepO (fun _=>False) w w') (h1:∀ b,A b->A' b) (h2:∀ b,A' b->A b∨w.heap.size<=b) (h3:∀ b,A' b->b < w'.heap.size):SRel S A0 O w0 A' σ w' st tm:=by
 have hA:∀ b,A b->w'.heap[b]? = w.heap[b]?:=fun b hb=>hk.block b (h.Alt b hb) (fun e=>e);have hs:∀ s,zbG σ σ w w' s:=fun s=>⟨rfl,fun b cs el hb hc=>⟨cs,by rw[hk.block b (h.dom s b hb).2.1 (fun e=>e)];exact hc,rfl⟩⟩;refine ⟨fun k=>(h.fr k).mono h1 hA fun s _=>hs s,fun s blk hb=>(h.hp s blk hb).mono h1 hA rfl (fun b hb=>hk.block b (h.dom s b hb).2.1 (fun e=>e)) fun s' _=>hs s',h.dang,h.dangV,fun s b hb => ?_,h.inj,h3,fun b hb => ?_, ?_, ?_,h.Olt⟩
 ·obtain ⟨k1,k2,k3,k4⟩:=h.dom s b hb;exact ⟨k1,AP k2 hk.size,fun ao=>(h2 b ao).elim k3 (fun e=>by omega),k4⟩
 ·rcases h2 b hb with hb | hb
  ·exact h.Asub b hb
  ·exact .inr (.inl (AY h.keep.size hb))
 ·exact h.keep.trans ⟨hk.os,hk.tape,hk.output,hk.size,fun k au _=>hk.block k au (fun e=>e)⟩
 ·exact h.kp.same (fun s _=>hs s) fun _ _ _ h _=>h
def op_cvs (h:SRel S A0 O w0 A σ w st tm) {s t e:TypeId} {i:TypeInfo} {x:Operand} {x':AOpd} (ho:o.op=.convert s t x) (hs:S.P.underlying s=some .string) (ht:S.P.underlying t=some (.slice e)) (he:S.P.underlying e=some (.int .u8)) (h1:ql S x=some x')
  (ha:aop (.cvs x') d st=some (v,aa)):yS S A0 O w0 w tm df o v aa:=by
 have g1:=h.ev (df:=df) h1;simp only[aop] at ha;split at ha
 ·rename_i b hb;rw[hb] at g1;have e1:=g1.rel.v_inv;simp only[Option.some.injEq,Prod.mk.injEq] at ha;obtain ⟨rfl,rfl⟩:=ha;generalize al:(b.data.map (fun c=>Value.int .u8 c.toNat)++Array.replicate (grownCap w b.size 0 e - b.size) (.int .u8 0))=cs;have ay:(execOp (Act.eval ⟨tm,df⟩) o).run S.P w=.ok (.value (.slice (some ⟨w.heap.size,0,none⟩) b.size (grownCap w b.size 0 e))) ((w.drew.alloc (.cells cs e)).freeze ⟨w.heap.size,cs.size,none⟩ 1):=by
   have h0:(w.drew.alloc (.cells cs e)).heap[w.heap.size]? = some (.cells cs e (0,0)):=heap_alloc_new w.drew _;have hsh:(w.drew.alloc (.cells cs e)).shape? w.heap.size=some (e,cs.size):=by simp only[World.shape?,h0]
   have mI:(b.data.map (fun c=>Value.int .u8 c.toNat)++Array.replicate ((Question.appendCap b.size 0 e).cut (w.tape w.drawn (Question.appendCap b.size 0 e)) - b.size) (.int .u8 0))=cs:=al;have hcv:(Conv.stringToBytes e b).run S.P w=.ok (.slice (some ⟨w.heap.size,0,none⟩) b.size (grownCap w b.size 0 e)) ((w.drew.alloc (.cells cs e)).freeze ⟨w.heap.size,cs.size,none⟩ 1):=(by simp[Conv.stringToBytes,Question.forced,newRow,markStringish];rw[mI,hsh];simp[grownCap]);simp[execOp,ho,e1,convert,run_underlying hs,run_underlying ht,run_underlying he,hcv]
  have hlen:b.size<=cs.size:=by rw[← al];simp
  have aV:((w.drew.alloc (.cells cs e)).freeze ⟨w.heap.size,cs.size,none⟩ 1).heap[w.heap.size]? = some (.cells cs e (cs.size,cs.size+1)):=by
   have h0:(w.drew.alloc (.cells cs e)).heap[w.heap.size]? = some (.cells cs e (0,0)):=heap_alloc_new w.drew _;have ak:w.heap.size < (w.drew.alloc (.cells cs e)).heap.size:=by simp
   simp only[World.freeze];rw[if_neg (by omega)];simp only[Array.getElem?_modify,if_true,h0,AH];simp
  have hold:∀ k,k < w.heap.size->((w.drew.alloc (.cells cs e)).freeze ⟨w.heap.size,cs.size,none⟩ 1).heap[k]? = w.heap[k]?:=(by intro k hk;simp only[World.freeze];rw[if_neg (by omega)];simp only[Array.getElem?_modify];rw[if_neg (by omega)];exact heap_alloc_old w.drew _ k hk);have aW:((w.drew.alloc (.cells cs e)).freeze ⟨w.heap.size,cs.size,none⟩ 1).heap.size=w.heap.size+1:=(by simp[World.freeze]);generalize hw':(w.drew.alloc (.cells cs e)).freeze ⟨w.heap.size,cs.size,none⟩ 1=w' at *;have eu:KeepO (fun _=>False) w w':=(by refine ⟨?_, ?_, ?_,by omega,fun k hk _=>hold k hk⟩<;>(subst hw';simp only[World.freeze];rw[if_neg (by omega)];rfl))
  have iL:=h.grow (A':=fun c=>A c∨c=w.heap.size) eu (fun _ h=>.inl h) (fun c hc=>hc.imp id (fun e=>by omega)) (fun c hc=>hc.elim (fun hc=>by have:=h.Alt c hc;omega) (fun e=>by omega));refine ⟨_,w',_,σ,ay,iL,.inl ⟨_,rfl,.of0 ?_,by simp[AV.refs]⟩⟩;have hl:(b.data.toList.map fun c=>[AV.v (.int .u8 c.toNat)]).length=b.size:=by simp
  have bj:∀ j,j < b.size->cs.getD j undef=.int .u8 (b.data.toList.getD j 0).toNat:=(by intro j hj;have ba:j < b.data.size:=hj;rw[← al,Ao,B2 (by simpa using ba),Array.getElem?_map,Aw,BB,Be ba];rfl)
  have:=VR0.sl (S:=S) (A:=fun c=>A c∨c=w.heap.size) (w:=w') (z:=1) (es:=b.data.toList.map fun c=>[AV.v (.int .u8 c.toNat)]) (b:=w.heap.size) (o:=0) (cap:=grownCap w b.size 0 e) (u:=fun j=>cs.getD j undef) (.inr rfl)
   (by rw[hl];exact grownCap_ge w _ _ _) (by intro e he;rw[Am] at he;obtain ⟨c,_,rfl⟩:=he;rfl)
   (fun j hj=>by
    rw[hl,Cj] at hj;have:j < cs.size:=by omega
    simp[World.cell?,aV,Array.getD,this])
   (fun j hj=>by rw[hl,Cj] at hj;simp only[bj j hj];rfl)
   (fun ii ee c xx hi hc=>by
    have kL:ii < b.size:=by rw[← hl];exact (Ac.1 hi).1
    simp only[As,Ag] at hi;obtain ⟨y,hy,rfl⟩:=hi;cases c with
    | zero =>simp at hc;subst hc;simp only[Cj,Bv,bj ii kL,List.getD,hy,A7];exact .v _
    | succ c=>simp at hc)
  rwa [hl] at this
 ·cases ha
def zjb {x y:AV} (h:qh (fun _=>none) x=some y):y=x∧x.refs=[]:=by
 cases x with
 | pe=>simp[qh] at h
 | lsl=>simp[qh] at h
 | own=>simp[qh] at h
 | _ =>
  simp only[qh] at h;split at h
  ·rename_i e;exact ⟨(Option.some.inj h).symm,BT.1 e⟩
  ·cases h
def op_lit (h:SRel S A0 O w0 A σ w st tm) {t e:TypeId} {i:TypeInfo} {z:Value} {len:Nat} {ps:Array (Nat×Operand)} {l:List (Nat×AOpd)} (ho:o.op=.buildSlice t len ps) (hu:S.P.underlying t=some (.slice e)) (hi:S.P.info? e=some i) (hz:i.zero=some z)
  (ca:z.cells.size=i.size) (bh:0 < i.size) (bB:i.size<=128) (aY:∀ x∈z.cells.toList,wE x=true) (hl:zd (fun (p:Nat×Operand)=>if p.1 < len then (ql S p.2).map fun x=>(p.1,x) else none) ps.toList=some l)
  (hlen:len<=4096) (ha:aop (.lit i.size z.cells.toList len l) d st=some (v,aa)):yS S A0 O w0 w tm df o v aa:=by
 simp only[aop] at ha;split at ha
 ·rename_i pcs dV;simp only[Option.some.injEq,Prod.mk.injEq] at ha;obtain ⟨rfl,rfl⟩:=ha;obtain ⟨a1,a2⟩:=zu hl;obtain ⟨b1,b2⟩:=zu dV;have zr:=zhb (R:=VR0 S A w) (z:=z) (n:=len) (by omega) (fun x _=>.v x) (fun x hx=>zas (aY x hx));rw[ca] at zr
  obtain ⟨aw,f1,f2⟩:=zbt (R:=VR0 S A w) (z:=i.size) pcs (List.replicate len (z.cells.toList.map AV.v)) (ps.toList.map fun p=>(p.1,Act.eval ⟨tm,df⟩ p.2)) _ zr (by rw[An];omega)
   (fun j p r hj hr=>by
    obtain ⟨q,hq,bD⟩:=b2 j p hj;obtain ⟨q0,fo,cM⟩:=a2 j q hq;simp only[As,fo,AH,Option.some.injEq] at hr;subst hr;split at cM
    ·rename_i ak;simp only[Ag] at cM;obtain ⟨x,hx,rfl⟩:=cM;split at bD
     ·rename_i fE gl;split at bD
      ·rename_i cs al;split at bD
       ·rename_i bw;cases bD;have g:=h.ev (df:=df) hx;obtain ⟨c1,c2,c3,c4⟩:=g.rel.cells gl;obtain ⟨d1,d2⟩:=zu al;refine ⟨rfl,by simpa using ak,bw,by simp only;omega,fun i a hi => ?_,c3⟩;obtain ⟨x0,aq,az⟩:=d2 i a hi;obtain ⟨rfl,cd⟩:=zjb az;exact (c2 i a aq).to0 cd
       ·cases bD
      ·cases bD
     ·cases bD
    ·cases cM)
  have ay:=run_bsl (P:=S.P) w t e len (ps.map fun (i,x)=>(i,Act.eval ⟨tm,df⟩ x)) aw i z hu hi hz (by
    have:len * i.size<=4096 * 128:=BH hlen bB
    omega) (by rw[ca];simpa using f1)
  generalize mD:pcs.foldl (fun es p=>es.set p.1 p.2) (List.replicate len (z.cells.toList.map AV.v))=es at f2;have cq:es.length=len:=by
   have:∀ (ps:List (Nat×List AV)) (es:List (List AV)),(ps.foldl (fun es p=>es.set p.1 p.2) es).length=es.length:=by
    intro ps
    induction ps with
    | nil=>intro es;rfl
    | cons p ps ih=>intro es;simp only[Bt];rw[ih];simp
   rw[← mD,this];simp
  have hold:∀ k,k < w.heap.size->(w.alloc (.cells aw e)).heap[k]? = w.heap[k]?:=fun k hk=>heap_alloc_old w _ k hk;have aV:(w.alloc (.cells aw e)).heap[w.heap.size]? = some (.cells aw e (0,0)):=heap_alloc_new w _;have eu:KeepO (fun _=>False) w (w.alloc (.cells aw e)):=⟨rfl,rfl,rfl,by simp,fun k hk _=>hold k hk⟩;have iL:=h.grow (A':=fun c=>A c∨c=w.heap.size) eu (fun _ h=>.inl h) (fun c hc=>hc.imp id (fun e=>by omega)) (fun c hc=>hc.elim (fun hc=>by have:=h.Alt c hc;simp;omega) (fun e=>by simp;omega));have kU:RowRel (VR0 S (fun c=>A c∨c=w.heap.size) (w.alloc (.cells aw e))) i.size es aw:=f2.imp fun x v hx=>hx.mono (fun _ h=>.inl h) fun b hb=>hold b (h.Alt b hb);have bW:ws S (fun c=>A c∨c=w.heap.size) (fun _=>some w.heap.size) (w.alloc (.cells aw e)) 0 (.arr i.size es):=kU.blk rfl aV;obtain ⟨q0,⟨q1,_⟩ | ⟨b',vs,bC,q1,q2,q3,q4,q5⟩⟩:=bW
  ·cases q1
  ·cases q1;rw[aV] at q2;cases q2;refine ⟨.value (.slice (some ⟨w.heap.size,0,none⟩) len len),_,_,σ,by simp only[execOp,ho,Sem.run_bind,ay,Result.andThen_ok,Sem.run_pure],iL,.inl ⟨_,rfl,.of0 ?_,by simp[AV.refs]⟩⟩
   have:=VR0.sl (S:=S) (A:=fun c=>A c∨c=w.heap.size) (w:=w.alloc (.cells aw e)) (z:=i.size) (es:=es) (b:=w.heap.size) (o:=0) (cap:=len) (u:=fun j=>aw.getD j undef) (.inr rfl) (by rw[cq];exact AJ _) q0
    (fun j hj=>by
     have h1:j < aw.size:=by omega
     simp only[World.cell?,aV,A3];simp[Array.getD,h1]) (fun j hj=>q4 j hj) (fun ii ee c xx hi hc=>q5 ii ee c xx hi hc)
   rwa [cq] at this
 ·cases ha
def yF (h:SRel S A0 O w0 A σ w st tm) {A':Nat->Prop} (hA:∀ b,A b->A' b) {x y:AV} {v:Value} (hv:VR S A σ w x v) (hs:qj st.hp x=some y)
  (hr:∀ s b,σ s=some b->(s∈x.refs∨∃ s'∈x.refs,cT st.hp s'=false)->A' b):VR0 S A' w y v:=by
 unfold qj at hs;split at hs
 ·rename_i s off;split at hs
  ·rename_i cs hb;split at hs
   ·rename_i aA al;cases hs;obtain ⟨b,rfl,hσ⟩:=hv.pv_inv;obtain ⟨b',vs,el,k1,k2,k3,k4⟩:=h.hp _ _ hb;obtain rfl:b'=b:=Option.some.inj (k1.symm.trans hσ);obtain ⟨d1,d2⟩:=zu al;have all:∀ s' b',σ s'=some b'->A' b':=fun s' b' ab=>hr s' b' ab (.inr ⟨s,by simp[AV.refs],by simp[cT,hb]⟩);have:=VR0.ep (S:=S) (A:=A') (w:=w) (cs:=aA) (off:=off) (b:=b') (o:=0) (u:=fun j=>vs.getD j undef) (all s b' hσ) (fun j hj=>by
     have:j < vs.size:=by omega
     simp[World.cell?,k2,this,Array.getD]) (fun j x hj=>by
     obtain ⟨x0,aq,az⟩:=d2 j x hj;exact (yG h hA (k4 j x0 aq) az fun s' _ b'' ab=>all s' b'' ab).1)
    simpa using this
   ·cases hs
  ·cases hs
 ·rename_i cs;split at hs
  ·rename_i aA al;cases hs;obtain ⟨vs,rfl,k1,k2⟩:=hv.agg_inv;obtain ⟨d1,d2⟩:=zu al;refine .agg (by omega) fun j x hj => ?_;obtain ⟨x0,aq,az⟩:=d2 j x hj;exact (yG h hA (k2 j x0 aq) az fun s hs b hb=>hr s b hb (.inl (by rw[AV.refs];exact ze.2 ⟨x0,Ad aq,hs⟩))).1
  ·cases hs
 ·exact (yG h hA hv hs fun s ab b hb=>hr s b hb (.inl ab)).1
def zck (h:SRel S A0 O w0 A σ w st tm) {A':Nat->Prop} (hA:∀ b,A b->A' b) {x y:AV} {v:Value} (hv:VR S A σ w x v) (hs:wA st.hp x=some y)
  (hr:∀ s b,σ s=some b->(s∈x.refs∨∃ s'∈x.refs,cT st.hp s'=false)->A' b):VR0 S A' w y v:=by
 have sub:∀ {cs:List AV} {x0:AV} {j:Nat},cs[j]? = some x0->∀ s∈x0.refs,s∈AV.refsL cs:=fun hx s hs=>ze.2 ⟨_,Ad hx,hs⟩;unfold wA at hs;split at hs
 ·rename_i f caps;split at hs
  ·rename_i aA al;cases hs;obtain ⟨g,vs,rfl,k0,k1,k2⟩:=hv.fn_inv;obtain ⟨d1,d2⟩:=zu al;refine .fn k0 (by omega) fun j x hj => ?_;obtain ⟨x0,aq,az⟩:=d2 j x hj;exact yF h hA (k2 j x0 aq) az fun s b hb hh=>hr s b hb (by rw[AV.refs];exact hh.imp (sub aq s) fun ⟨s',h1,h2⟩=>⟨s',sub aq s' h1,h2⟩)
  ·cases hs
 ·rename_i cs;split at hs
  ·rename_i aA al;cases hs;obtain ⟨vs,rfl,k1,k2⟩:=hv.tup_inv;obtain ⟨d1,d2⟩:=zu al;refine .tup (by omega) fun j x hj => ?_;obtain ⟨x0,aq,az⟩:=d2 j x hj;exact yF h hA (k2 j x0 aq) az fun s b hb hh=>hr s b hb (by rw[AV.refs];exact hh.imp (sub aq s) fun ⟨s',h1,h2⟩=>⟨s',sub aq s' h1,h2⟩)
  ·cases hs
 ·rename_i cs;split at hs
  ·rename_i aA al;cases hs;obtain ⟨vs,rfl,k1,k2⟩:=hv.agg_inv;obtain ⟨d1,d2⟩:=zu al;refine .agg (by omega) fun j x hj => ?_;obtain ⟨x0,aq,az⟩:=d2 j x hj;exact yF h hA (k2 j x0 aq) az fun s b hb hh=>hr s b hb (by rw[AV.refs];exact hh.imp (sub aq s) fun ⟨s',h1,h2⟩=>⟨s',sub aq s' h1,h2⟩)
  ·cases hs
 ·exact yF h hA hv hs hr
def yM {A':Nat->Prop} {w':World} {x:AV} {v:Value} (h:VR0 S A w x v) (hp:x.plain1=true):VR0 S A' w' x v:=by
 cases h with
 | bot=>exact .bot _
 | v=>exact .v _
 | @ifc t T y v h1 h2 =>
  cases y with
  | v x=>cases h2;exact .ifc h1 (.v _)
  | bot=>exact .ifc h1 (.bot _)
  | _=>simp[AV.plain1] at hp
 | _=>simp[AV.plain1] at hp
def zbh {A':Nat->Prop} {w':World} {x:AV} {v:Value} (h:VR0 S A w x v) (hp:x.plain2=true):VR0 S A' w' x v:=by
 by_cases hx:∃ cs,x=.agg cs
 ·obtain ⟨cs,rfl⟩:=hx;cases h with
  | agg h1 h2=>exact .agg h1 fun i x hx=>yM (h2 i x hx) (Af.1 hp x (Ad hx))
 ·refine yM h ?_;unfold AV.plain2 at hp;unfold AV.plain1;split at hp
  ·rfl
  ·rfl
  ·rfl
  ·rfl
  ·exact absurd ⟨_,rfl⟩ hx
  ·cases hp
def nk {A':Nat->Prop} {w':World} {x:AV} {v:Value} (h:VR0 S A w x v) (hp:x.plain=true):VR0 S A' w' x v:=by
 by_cases hx:∃ cs,x=.agg cs
 ·obtain ⟨cs,rfl⟩:=hx;cases h with
  | agg h1 h2=>exact .agg h1 fun i x hx=>yM (h2 i x hx) (Af.1 hp x (Ad hx))
 ·by_cases hy:∃ cs,x=.tup cs
  ·obtain ⟨cs,rfl⟩:=hy;cases h with
   | tup h1 h2=>exact .tup h1 fun i x hx=>zbh (h2 i x hx) (Af.1 hp x (Ad hx))
  ·refine yM h ?_;unfold AV.plain at hp;unfold AV.plain1;split at hp
   ·rfl
   ·rfl
   ·rfl
   ·rfl
   ·exact absurd ⟨_,rfl⟩ hx
   ·exact absurd ⟨_,rfl⟩ hy
   ·cases hp
def SRel.jpre (h:SRel S A0 O w0 A σ w st tm) (jr:JR S A0 O w0):JR S (fun b=>A b∨∃ s,σ s=some b) (fun _=>False) w:=by
 have aV:∀ b,S.jg b->¬ (w0.heap.size<=b∨O b):=fun b hb e=>e.elim (fun e=>by have:=jr.lt b hb;omega) (jr.no b hb);refine ⟨S.jnK w0 w (fun b hb=>⟨jr.lt b hb,h.keep.block b (jr.lt b hb) (jr.no b hb)⟩) jr.jn,fun b hb=>AP (jr.lt b hb) h.keep.size,fun b hb ha => ?_,fun b hb e=>e,jr.ng⟩;rcases ha with ha | ⟨s,hs⟩
 ·exact (h.Asub b ha).elim (jr.na b hb) (aV b hb)
 ·exact aV b hb (h.dom s b hs).2.2.2
def SRel.jpreA (h:SRel S A0 O w0 A σ w st tm) (jr:JR S A0 O w0):JR S A (fun _=>False) w:=(h.jpre jr).mono (fun _ h=>.inl h) fun _ h=>h
def SRel.reb (h:SRel S A0 O w0 A σ w st tm) (jr:JR S A0 O w0) {w':World} (hw:w.heap.size<=w'.heap.size) (hj:S.jn w'):SRel S A0 O (zdT S w0 w') A σ (zdT S w w') st tm∧JR S A0 O (zdT S w0 w'):=by
 have jp:=h.jpre jr;have hA:∀ b,A b->(zdT S w w').heap[b]? = w.heap[b]?:=fun b hb=>yj fun e=>jp.na b e (.inl hb);have hσ:∀ s b,σ s=some b->(zdT S w w').heap[b]? = w.heap[b]?:=fun s b hb=>yj fun e=>jp.na b e (.inr ⟨s,hb⟩);have bJ:∀ s,zbG σ σ w (zdT S w w') s:=fun s=>⟨rfl,fun b cs el hb hc=>⟨cs,by rw[hσ s b hb];exact hc,rfl⟩⟩;refine ⟨⟨fun k=>(h.fr k).mono (fun _ h=>h) hA fun s _=>bJ s,fun s blk hb=>(h.hp s blk hb).mono (fun _ h=>h) hA rfl (fun b hb=>hσ s b hb) fun s' _=>bJ s',h.dang,h.dangV,fun s b hs => ?_,h.inj,fun b hb=>by rw[zY];exact h.Alt b hb,fun b hb=>by rw[zY];exact h.Asub b hb, ?_,h.kp.of fun s _ _=>⟨bJ s,fun z es he=>⟨es,he,rfl⟩⟩,fun b hb=>by rw[zY];exact h.Olt.1 b hb,h.Olt.2.1, ?_⟩, ?_⟩
 ·rw[zY,zY];exact h.dom s b hs
 ·refine ⟨h.keep.os,h.keep.tape,h.keep.output,by rw[zY,zY];exact h.keep.size,fun k hk hO => ?_⟩;rw[zY] at hk;have bu:=AP hk h.keep.size;by_cases c:S.jg k
  ·rw[zeJ c hk (AP bu hw),zeJ c bu (AP bu hw)]
  ·rw[yj c,yj c];exact h.keep.block k hk hO
 ·exact h.Olt.2.2.keep (O:=S.jg) jr.ng ⟨rfl,rfl,rfl,by rw[zY];exact AJ _,fun k _ hO=>yj hO⟩
 ·exact ⟨S.jnK w' _ (fun b hb=>⟨AP (AP (jr.lt b hb) h.keep.size) hw,zeJ hb (jr.lt b hb) (AP (AP (jr.lt b hb) h.keep.size) hw)⟩) hj,fun b hb=>by rw[zY];exact jr.lt b hb,jr.na,jr.no,jr.ng⟩
def zaC (S:Seat) (A0:Nat->Prop) (O:Hnd) (w0:World) (A:Nat->Prop) (σ:Nat->Option Nat) (w:World) (st:ASt) (tm:Array Value):Prop :=
 ∃ w1,RebR S w0 w1∧JR S A0 O w1∧SRel S A0 O w1 A σ w st tm
def zaJ (S:Seat) (A:Nat->Prop) (w:World) (b?:Option Nat) (x:AV) (v:Value):Prop :=
 match x with
 | .own z es=>qD S A w b? z es v
 | x=>b? = none∧VR0 S A w x v
def jc (A:Nat->Prop) (β:Nat->Option Nat) (w w':World) (b:Nat):Prop:=(A b∨w.heap.size<=b)∧b < w'.heap.size∧∀ i,β i≠some b
def zap (S:Seat) (A:Nat->Prop) (w:World) (β:Nat->Option Nat) (r:AV) (v:Value):Prop :=
 match r with
 | .tup rs=>∃ vs,v=.tuple vs∧rs.length=vs.size∧∀ (i:Nat) (x:AV),rs[i]? = some x->zaJ S A w (β i) x (vs.getD i undef)
 | r=>zaJ S A w (β 0) r v
def zjK (S:Seat) (A:Nat->Prop) (w w':World) (r:AV) (v:Value):Prop :=
 ∃ β:Nat->Option Nat,(∀ i b,β i=some b->w.heap.size<=b∧b < w'.heap.size)∧(∀ i j b,β i=some b->β j=some b->i=j)∧zap S (jc A β w w') w' β r v
def zcz (S:Seat) (g:FuncId) (args:List AV) (r:AV):Prop :=
 ∀ (A:Nat->Prop) (w:World) (vs:Array Value),vs.size=args.length->((∀ b,A b->b < w.heap.size)∧Inv S w)->(∀ (i:Nat) (x:AV),args[i]? = some x->VR0 S A w x (vs.getD i undef)) ->
  Calls S.P g vs w fun e w'=>∃ v,e=.returned v∧KeepO (fun _=>False) w w'∧zjK S A w w' r v
def zdJ (S:Seat) (g:FuncId) (args:List AV) (r:AV):Prop :=
 ∀ (A:Nat->Prop) (w:World) (vs:Array Value),vs.size=args.length->((∀ b,A b->b < w.heap.size)∧Inv S w)->JR S A (fun _=>False) w->(∀ (i:Nat) (x:AV),args[i]? = some x->VR0 S A w x (vs.getD i undef)) ->
  Calls S.P g vs w fun e w'=>∃ v,e=.returned v∧KeepO S.jg w w'∧S.jn w'∧zjK S A w w' r v
def zcz.up {g:FuncId} {args:List AV} {r:AV} (h:zcz S g args r):zdJ S g args r:=by intro A w vs hl hA hJ ha;refine (h A w vs hl hA ha).mono ?_;rintro e w' ⟨v,he,hk,hr⟩;exact ⟨v,he,⟨hk.os,hk.tape,hk.output,hk.size,fun k au _=>hk.block k au fun e=>e⟩,hJ.after hk,hr⟩
def zjK.same {w1 w':World} {r:AV} {v:Value} (hs:w1.heap.size=w.heap.size) (h:zjK S A w w' r v):zjK S A w1 w' r v:=by
 obtain ⟨β,h1,h2,h3⟩:=h;have e:jc A β w1 w'=jc A β w w':=by funext b;simp only[jc,hs]
 exact ⟨β,fun i b hb=>by rw[hs];exact h1 i b hb,h2,by rw[e];exact h3⟩
def zjK.reb {w':World} {r:AV} {v:Value} (h:zjK S A w w' r v):zjK S A (zdT S w w') w' r v:=h.same zY
def e9 (ι:Nat->Option Nat) (b:Nat):Prop:=∃ i,ι i=some b
def j7 (ι:Nat->Option Nat) (outs:zcd) (b:Nat):Prop:=∃ i,ι i=some b∧∀ es,(i,es) ∉ outs
def zcc (S:Seat) (args:List AV) (ι:Nat->Option Nat) (vs:Array Value) (w w':World) (outs:zcd) (A':Nat->Prop):Prop :=
 ∀ (i:Nat) (es:List (List AV)) (z:Nat) (aP:List (List AV)),(i,es)∈outs->args[i]? = some (.own z aP)->es.length=aP.length∧qD S A' w' (ι i) z es (vs.getD i undef) ∧
  ∀ b cs el,ι i=some b->w.heap[b]? = some (.cells cs el (0,0))->∃ aA,w'.heap[b]? = some (.cells aA el (0,0))∧aA.size=cs.size
def cG (S:Seat) (A E:Nat->Prop) (T:(Nat->Prop)->Prop) (w w':World) (r:AV) (v:Value):Prop :=
 ∃ β:Nat->Option Nat,(∀ i b,β i=some b->(w.heap.size<=b∨E b)∧b < w'.heap.size)∧(∀ i j b,β i=some b->β j=some b->i=j)∧T (jc (fun b=>A b∨E b) β w w')∧zap S (jc (fun b=>A b∨E b) β w w') w' β r v
def kk (S:Seat) (g:FuncId) (args:List AV) (r:AV) (outs:zcd):Prop :=
 ∀ (A:Nat->Prop) (w:World) (vs:Array Value) (ι:Nat->Option Nat),vs.size=args.length->((∀ b,A b->b < w.heap.size)∧Inv S w) ->
  ((∀ i b,ι i=some b->i < args.length∧b < w.heap.size∧¬ A b∧∀ p∈S.globB,p≠b)∧∀ i j b,ι i=some b->ι j=some b->i=j) ->
  (∀ (i:Nat) (x:AV),args[i]? = some x->zaJ S A w (ι i) x (vs.getD i undef)) ->
  Calls S.P g vs w fun e w'=>∃ v,e=.returned v∧KeepO (e9 ι) w w'∧cG S A (j7 ι outs) (zcc S args ι vs w w' outs) w w' r v
def zaF (S:Seat) (g:FuncId) (args:List AV) (r:AV) (outs:zcd):Prop :=
 ∀ (A:Nat->Prop) (w:World) (vs:Array Value) (ι:Nat->Option Nat),vs.size=args.length->((∀ b,A b->b < w.heap.size)∧Inv S w) ->
  ((∀ i b,ι i=some b->i < args.length∧b < w.heap.size∧¬ A b∧∀ p∈S.globB,p≠b)∧∀ i j b,ι i=some b->ι j=some b->i=j)->JR S A (e9 ι) w ->
  (∀ (i:Nat) (x:AV),args[i]? = some x->zaJ S A w (ι i) x (vs.getD i undef)) ->
  Calls S.P g vs w fun e w'=>∃ v,e=.returned v∧KeepO (fun b=>e9 ι b∨S.jg b) w w'∧S.jn w'∧cG S A (j7 ι outs) (zcc S args ι vs w w' outs) w w' r v
def kk.up {g:FuncId} {args:List AV} {r:AV} {outs:zcd} (h:kk S g args r outs):zaF S g args r outs:=by intro A w vs ι hl hA hι hJ ha;refine (h A w vs ι hl hA hι ha).mono ?_;rintro e w' ⟨v,he,hk,hr⟩;exact ⟨v,he,⟨hk.os,hk.tape,hk.output,hk.size,fun k au hn=>hk.block k au fun e=>hn (.inl e)⟩,S.jnK w w' (fun b hb=>⟨hJ.lt b hb,hk.block b (hJ.lt b hb) (hJ.no b hb)⟩) hJ.jn,hr⟩
def qD.mono {A A':Nat->Prop} (hA:∀ b,A b->A' b) {b?:Option Nat} {z:Nat} {es:List (List AV)} {v:Value} (h:qD S A w b? z es v):qD S A' w b? z es v:=by
 obtain ⟨h0,h1 | ⟨b,cap,vs,el,h1,h2,h3,h4,h5,h6,h7,h8⟩⟩:=h
 ·exact ⟨h0,.inl h1⟩
 ·exact ⟨h0,.inr ⟨b,cap,vs,el,h1,h2,h3,h4,h5,h6,h7,fun i e c x hi hc=>(h8 i e c x hi hc).mono hA fun _ _=>rfl⟩⟩
def zaJ.mono {A A':Nat->Prop} (hA:∀ b,A b->A' b) {b?:Option Nat} {x:AV} {v:Value} (h:zaJ S A w b? x v):zaJ S A' w b? x v:=by
 cases x with
 | own z es=>exact qD.mono hA h
 | _=>exact ⟨h.1,h.2.mono hA fun _ _=>rfl⟩
def zap.mono {A A':Nat->Prop} (hA:∀ b,A b->A' b) {β:Nat->Option Nat} {r:AV} {v:Value} (h:zap S A w β r v):zap S A' w β r v:=by
 cases r with
 | tup rs=>obtain ⟨vs,h1,h2,h3⟩:=h;exact ⟨vs,h1,h2,fun i x hx=>(h3 i x hx).mono hA⟩
 | _=>unfold zap at h ⊢;exact zaJ.mono hA h
def jo {x:AV} {v:Value} (h:VR0 S A w x v):zaJ S A w none x v:=by
 cases x with
 | own z es=>cases h
 | _=>exact ⟨rfl,h⟩
def zag {b?:Option Nat} {x:AV} {v:Value} (h:zaJ S A w b? x v) (hx:zC x=false):b? = none∧VR0 S A w x v:=by
 cases x with
 | own z es=>simp[zC] at hx
 | _=>exact h
def nq {g:FuncId} {args:List AV} {r:AV} (h:zdJ S g args r) (ha:∀ x∈args,zC x=false):zaF S g args r []:=by intro A w vs ι hl hA hι hJ hargs;refine (h A w vs hl hA (hJ.mono (fun _ h=>h) fun _ h=>h.elim) fun i x hx=>(zag (hargs i x hx) (ha x (Ad hx))).2).mono ?_;rintro e w' ⟨v,he,hk,hj,β,hβ,aF,hr⟩;refine ⟨v,he,⟨hk.os,hk.tape,hk.output,hk.size,fun k au hn=>hk.block k au (fun e=>hn (.inr e))⟩,hj,β,fun i b hb=>⟨.inl (hβ i b hb).1,(hβ i b hb).2⟩,aF,(fun i es z aP hm=>by cases hm),hr.mono fun b hb=>⟨hb.1.imp .inl id,hb.2⟩⟩
def zeK {g:FuncId} {args:List AV} {r:AV} (h:zcz S g args r) (ha:∀ x∈args,zC x=false):zaF S g args r []:=nq h.up ha
def zaF.old {g:FuncId} {args:List AV} {r:AV} (h:zaF S g args r []) (ha:∀ x∈args,zC x=false):zdJ S g args r:=by
 intro A w vs hl hA hJ hargs;refine (h A w vs (fun _=>none) hl hA ⟨by simp,by simp⟩ (hJ.mono (fun _ h=>h) fun b ⟨i,e⟩=>by cases e) fun i x hx=>jo (hargs i x hx)).mono ?_;rintro e w' ⟨v,he,hk,hj,β,hβ,aF,_,hr⟩;have hE:∀ b,¬ j7 (fun _=>none) [] b:=fun b ⟨i,h,_⟩=>by cases h
 refine ⟨v,he,⟨hk.os,hk.tape,hk.output,hk.size,fun k au hn=>hk.block k au (fun e=>e.elim (fun ⟨i,e⟩=>by cases e) hn)⟩,hj,β,fun i b hb=>⟨(hβ i b hb).1.resolve_right (hE b),(hβ i b hb).2⟩,aF,hr.mono fun b hb=>⟨hb.1.imp (fun h=>h.resolve_right (hE b)) id,hb.2⟩⟩
structure Plain (S:Seat):Prop where
 g:∀ b,¬ S.jg b
 n:∀ w,S.jn w
def zaF.old0 (hP:Plain S) {g:FuncId} {args:List AV} {r:AV} (h:zaF S g args r []) (ha:∀ x∈args,zC x=false):zcz S g args r:=by intro A w vs hl hA hargs;refine (h.old ha A w vs hl hA (.none hP.g hP.n _ _ _) hargs).mono ?_;rintro e w' ⟨v,he,hk,_,hr⟩;exact ⟨v,he,⟨hk.os,hk.tape,hk.output,hk.size,fun k au _=>hk.block k au (hP.g k)⟩,hr⟩
def zhk {hp:Nat->Option Blk} {x y:AV} (h:qh hp x=some y):zC y=false:=by
 cases x with
 | own z es=>simp[qh] at h
 | pe s z i off=>simp only[qh] at h;repeat' split at h
                 all_goals (first | (cases h;rfl) | cases h)
 | lsl s z off len=>simp only[qh] at h;repeat' split at h
                    all_goals (first | (cases h;rfl) | cases h)
 | _=>simp only[qh] at h;repeat' split at h
      all_goals (first | (cases h;rfl) | cases h)
def zhj {hp:Nat->Option Blk} {x y:AV} (h:qj hp x=some y):zC y=false:=by
 cases x with
 | pv s off=>simp only[qj] at h;repeat' split at h
             all_goals (first | (cases h;rfl) | cases h)
 | agg cs=>simp only[qj] at h;repeat' split at h
           all_goals (first | (cases h;rfl) | cases h)
 | _=>simp only[qj] at h;exact zhk h
def yE {hp:Nat->Option Blk} {x y:AV} (h:wA hp x=some y):zC y=false:=by
 cases x with
 | fn f cs=>simp only[wA] at h;repeat' split at h
            all_goals (first | (cases h;rfl) | cases h)
 | tup cs=>simp only[wA] at h;repeat' split at h
           all_goals (first | (cases h;rfl) | cases h)
 | agg cs=>simp only[wA] at h;repeat' split at h
           all_goals (first | (cases h;rfl) | cases h)
 | _=>simp only[wA] at h;exact zhj h
def zb (S:Seat):Rets:=⟨fun f args r outs=>∀ g,qz g S.fns=some f->zaF S g args r outs,fun st ae=>∀ (A0:Nat->Prop) (O:Hnd) (w0:World) (A:Nat->Prop) (σ:Nat->Option Nat) (w:World) (tm:Array Value),SRel S A0 O w0 A σ w st tm->∃ A' σ',SRel S A0 O w0 A' σ' w ae tm⟩
end
end
section
open Go Go.RowKit
section
variable {S:Seat} {A0:Nat->Prop} {O:Hnd} {w0:World} {A:Nat->Prop} {σ:Nat->Option Nat} {w:World} {st aa:ASt} {tm:Array Value} {df:List Deferred} {o:Oper} {v:AV} {d:Nat}
def SRel.addSite (h:SRel S A0 O w0 A σ w st tm) {d:Nat} (hd:st.hp d=none) {b?:Option Nat} {blk:Blk} (hr:blk.refs=[]) (hb:ws S A (upd σ d b?) w d blk)
  (hq:∀ b,b? = some b->b < w.heap.size∧¬ A b∧(w0.heap.size<=b∨O b)∧∀ s,σ s≠some b):SRel S A0 O w0 A (upd σ d b?) w (st.setH d (some blk)) tm:=by
 have bJ:∀ s,st.hp s≠none->zbG σ (upd σ d b?) w w s:=fun s hs=>⟨zbJ _ _ _ (fun e=>hs (e ▸ hd)),fun b cs el _ hb=>⟨cs,hb,rfl⟩⟩;refine ⟨fun k=>(h.fr k).mono (fun _ h=>h) (fun _ _=>rfl) fun s hs=>bJ s (h.dang k s hs),fun s b hs => ?_,fun k s hs => ?_,fun s cs hs s' ab => ?_,fun s b hs => ?_,fun s s' b h1 h2 => ?_,h.Alt,h.Asub,h.keep,h.kp.same bJ fun s z es he _=>by
  have ah:s≠d:=fun e=>by rw[e,hd] at he;cases he
  simp only[ASt.setH,upd,if_neg ah];exact he,h.Olt⟩
 ·simp only[ASt.setH,upd] at hs;split at hs
  ·rename_i e;subst e;cases hs;exact hb
  ·rename_i ah;refine (h.hp s b hs).mono (fun _ h=>h) (fun _ _=>rfl) (zbJ _ _ _ ah) (fun _ _=>rfl) fun s' ab=>bJ s' ?_;cases b with
   | var cs=>exact h.dangV s cs hs s' (by rw[Blk.refs] at ab;exact ab)
   | arr z es=>simp[Blk.refs] at ab
 ·simp only[ASt.setH,upd];split
  ·simp
  ·exact h.dang k s hs
 ·simp only[ASt.setH,upd] at hs ⊢;split
  ·simp
  ·split at hs
   ·cases hs;rw[Blk.refs] at hr;rw[hr] at ab;cases ab
   ·exact h.dangV s cs hs s' ab
 ·simp only[upd] at hs;split at hs
  ·rename_i e;subst e;obtain ⟨k1,k2,k3,k4⟩:=hq b hs;exact ⟨by simp[ASt.setH,upd],k1,k2,k3⟩
  ·rename_i ah;obtain ⟨k1,k2⟩:=h.dom s b hs;exact ⟨by simp[ASt.setH,upd,ah];exact k1,k2⟩
 ·simp only[upd] at h1 h2;split at h1
  ·rename_i e1;split at h2
   ·rename_i e2;exact e1.trans e2.symm
   ·exact absurd h2 ((hq b h1).2.2.2 s')
  ·split at h2
   ·exact absurd h1 ((hq b h2).2.2.2 s)
   ·exact h.inj s s' b h1 h2
def jG {b?:Option Nat} {z:Nat} {es:List (List AV)} {rv:Value} (h:qD S A w b? z es rv) {σ':Nat->Option Nat} {d:Nat} (hσ:σ' d=b?) :
  VR S A σ' w (.lsl d z 0 es.length) rv∧ws S A σ' w d (.arr z es):=by
 obtain ⟨h0,⟨h1,rfl,rfl⟩ | ⟨b,cap,vs,el,h1,rfl,h2,h3,h4,h5,h6,h7⟩⟩:=h
 ·exact ⟨.lslnil (hσ.trans h1),h0,.inl ⟨hσ.trans h1,rfl⟩⟩
 ·refine ⟨.lsl (hσ.trans h1) h2 (fun _=>by simp) h4 (by simpa using h5) h3,h0,.inr ⟨b,vs,el,hσ.trans h1,h4,AY (AL _ h2) h5,h6,h7⟩⟩
def zbq {β:Nat->Option Nat} {us:Array Value} {d:Nat} (hβ:∀ i b,β i=some b->b < w.heap.size∧¬ A b∧(w0.heap.size<=b∨O b)) (aF:∀ i j b,β i=some b->β j=some b->i=j) :
  ∀ (rs:List AV) (i:Nat) {σ:Nat->Option Nat} {st:ASt} {ys:List AV} {aa:ASt},SRel S A0 O w0 A σ w st tm->(∀ (j:Nat) (x:AV),rs[j]? = some x->zaJ S A w (β (i+j)) x (us.getD (i+j) undef)) ->
   (∀ s b k,σ s=some b->i<=k->β k≠some b)->bA d i rs st=some (ys,aa) ->
   ∃ σ',SRel S A0 O w0 A σ' w aa tm∧ys.length=rs.length∧(∀ (j:Nat) (y:AV),ys[j]? = some y->Got S A σ' w aa y (us.getD (i+j) undef))∧∀ s,st.hp s≠none->σ' s=σ s∧aa.hp s≠none
 | [],i,σ,st,ys,aa,h,_,_,hi=>by
  simp only[bA,Option.some.injEq,Prod.mk.injEq] at hi;obtain ⟨rfl,rfl⟩:=hi;exact ⟨σ,h,rfl,by simp,fun s hs=>⟨rfl,hs⟩⟩
 | x :: r,i,σ,st,ys,aa,h,ha,hd,hi=>by
  have db:∀ (j:Nat) (x:AV),r[j]? = some x->zaJ S A w (β (i+1+j)) x (us.getD (i+1+j) undef):=fun j y hj=>by
   have:=ha (j+1) y (by simpa using hj)
   rwa [show i+(j+1)=i+1+j by omega] at this
  have h0:=ha 0 x rfl;simp only[Bv] at h0;by_cases hx:∃ z es,x=.own z es
  ·obtain ⟨z,es,rfl⟩:=hx;simp only[bA] at hi;split at hi
   ·rename_i bn gY hn aE;simp only[Option.some.injEq,Prod.mk.injEq] at hi;obtain ⟨rfl,rfl⟩:=hi;have kT:qD S A w (β i) z es (us.getD i undef):=h0;obtain ⟨v1,v2⟩:=jG kT (σ':=upd σ (d+10000 * (i+1)) (β i)) (qo _ _ _);have h1:=h.addSite hn (b?:=β i) (blk:=.arr z es) rfl v2 fun b hb=>⟨(hβ i b hb).1,(hβ i b hb).2.1,(hβ i b hb).2.2,fun s hs=>hd s b i hs (AJ _) hb⟩;obtain ⟨σ',k1,k2,k3,k4⟩:=zbq hβ aF r (i+1) h1 db (fun s b k hs hk hb=>by
     simp only[upd] at hs;split at hs
     ·have:=aF i k b hs hb;omega
     ·exact hd s b k hs (by omega) hb) aE
    obtain ⟨q1,q2⟩:=k4 (d+10000 * (i+1)) (by simp[ASt.setH,upd]);refine ⟨σ',k1,by simp[k2],fun j y hj => ?_,fun s hs => ?_⟩
    ·cases j with
     | zero =>
      simp at hj;subst hj;refine ⟨v1.mono (fun _ h=>h) (fun _ _=>rfl) fun s hs => ?_,fun s hs => ?_⟩
      ·rw[AV.refs,Ah] at hs;subst hs;exact ⟨q1,fun b cs el _ hb=>⟨cs,hb,rfl⟩⟩
      ·rw[AV.refs,Ah] at hs;subst hs;exact q2
     | succ j =>
      simp at hj;have:=k3 j y (by simpa using hj)
      rwa [show i+1+j=i+(j+1) by omega] at this
    ·have ah:s≠d+10000 * (i+1):=fun e=>hs (e ▸ hn);obtain ⟨e1,e2⟩:=k4 s (by simp[ASt.setH,upd,ah];exact hs);exact ⟨e1.trans (zbJ _ _ _ ah),e2⟩
   ·cases hi
  ·have kT:β i=none∧VR0 S A w x (us.getD i undef):=by
    cases x with
    | own z es=>exact absurd ⟨z,es,rfl⟩ hx
    | _=>exact h0
   have aJ:∃ bn,bA d (i+1) r st=some (bn,aa)∧ys=x :: bn:=by
    cases x with
    | own z es=>exact absurd ⟨z,es,rfl⟩ hx
    | _ =>
     simp only[bA] at hi;split at hi
     ·rename_i bn gY aE;simp only[Option.some.injEq,Prod.mk.injEq] at hi;obtain ⟨rfl,rfl⟩:=hi;exact ⟨_,aE,rfl⟩
     ·cases hi
   obtain ⟨bn,aE,rfl⟩:=aJ;obtain ⟨σ',k1,k2,k3,k4⟩:=zbq hβ aF r (i+1) h db (fun s b k hs hk=>hd s b k hs (by omega)) aE;refine ⟨σ',k1,by simp[k2],fun j y hj => ?_,k4⟩;cases j with
   | zero =>simp at hj;subst hj;exact ⟨.of0 kT.2,fun s hs=>(yl kT.2 s hs).elim⟩
   | succ j =>
    simp at hj;have:=k3 j y (by simpa using hj)
    rwa [show i+1+j=i+(j+1) by omega] at this
def lu (hg:SRel S A0 O w0 A σ w st tm) {β:Nat->Option Nat} (hβ':∀ i b,β i=some b->b < w.heap.size∧¬ A b∧(w0.heap.size<=b∨O b)) (aF:∀ i j b,β i=some b->β j=some b->i=j)
  (gG:∀ s b k,σ s=some b->β k≠some b) {r:AV} {rv:Value} (hr:zap S A w β r rv) {d:Nat} (hi:imp d r st=some (v,aa)) :
  ∃ σ',SRel S A0 O w0 A σ' w aa tm∧Got S A σ' w aa v rv:=by
 have plain:VR0 S A w r rv->imp d r st=some (r,st)->∃ σ',SRel S A0 O w0 A σ' w aa tm∧Got S A σ' w aa v rv:=(by intro hv he;rw[he] at hi;simp only[Option.some.injEq,Prod.mk.injEq] at hi;obtain ⟨rfl,rfl⟩:=hi;exact ⟨_,hg,.of0 hv,fun s hs=>(yl hv s hs).elim⟩);cases r with
 | own z es =>
  simp only[imp] at hi;split at hi
  ·rename_i hn;simp only[Option.some.injEq,Prod.mk.injEq] at hi;obtain ⟨rfl,rfl⟩:=hi;have bQ:qD S A w (β 0) z es rv:=hr;obtain ⟨v1,v2⟩:=jG bQ (σ':=upd σ d (β 0)) (qo _ _ _);exact ⟨_,hg.addSite hn (b?:=β 0) (blk:=.arr z es) rfl v2 fun b hb=>⟨(hβ' 0 b hb).1,(hβ' 0 b hb).2.1,(hβ' 0 b hb).2.2,fun s hs=>gG s b 0 hs hb⟩,v1,fun s hs=>by
    rw[AV.refs,Ah] at hs;subst hs;simp[ASt.setH,upd]⟩
  ·cases hi
 | tup rs =>
  obtain ⟨us,rfl,hl,ha⟩:=hr;simp only[imp] at hi;split at hi
  ·rename_i ys gY aE;simp only[Option.some.injEq,Prod.mk.injEq] at hi;obtain ⟨rfl,rfl⟩:=hi;obtain ⟨σ',k1,k2,k3,k4⟩:=zbq (us:=us) hβ' aF rs 0 hg (by simpa using ha) (fun s b k hs _=>gG s b k hs) aE;refine ⟨σ',k1,.tup (by omega) fun i x hx=>by simpa using (k3 i x hx).rel,fun s hs => ?_⟩;rw[AV.refs,ze] at hs;obtain ⟨x,hx,hs⟩:=hs;obtain ⟨i,hi⟩:=AB.1 hx;exact (k3 i x hi).dang s hs
  ·cases hi
 | _=>unfold zap at hr;exact plain hr.2 rfl
def imp_sound (h:SRel S A0 O w0 A σ w st tm) {w':World} (hk:KeepO (fun _=>False) w w') {r:AV} {rv:Value} (hr:zjK S A w w' r rv) {d:Nat} (hi:imp d r st=some (v,aa)) :
  ∃ A' σ',SRel S A0 O w0 A' σ' w' aa tm∧Got S A' σ' w' aa v rv:=by
 obtain ⟨β,hβ,aF,hr⟩:=hr
 have hg:SRel S A0 O w0 (jc A β w w') σ w' st tm:=h.grow hk
  (fun b hb=>⟨.inl hb,AP (h.Alt b hb) hk.size,fun i e=>by have:=(hβ i b e).1;have:=h.Alt b hb;omega⟩) (fun b hb=>hb.1) (fun b hb=>hb.2.1)
 obtain ⟨σ',k⟩:=lu hg (fun i b hb=>⟨(hβ i b hb).2,fun hh=>hh.2.2 i hb,.inl (AY h.keep.size (hβ i b hb).1)⟩) aF
  (fun s b k hs hb=>by have:=(h.dom s b hs).2.1;have:=(hβ k b hb).1;omega) hr hi
 exact ⟨_,σ',k⟩
def wB {hp:Nat->Option Blk}:∀ (i:Nat) (args:List AV),zI hp [] i args=zd (wA hp) args
 | _,[]=>rfl
 | i,x :: r=>by
  have:=wB (hp:=hp) (i+1) r;simp only[zI,handed,Cc,C6,CV,Aq,if_false,Bn,if_true,zd,this];cases wA hp x<;>cases zd (wA hp) r<;>rfl
def zbT:∀ (i:Nat) (args:List AV),zS [] i args=[]
 | _,[]=>rfl
 | i,x :: r=>by simp[zS,handed,zbT (i+1) r]
def qU:∀ (i:Nat) (args:List AV),zD [] i args=[]
 | _,[]=>rfl
 | i,x :: r=>by simp[zD,handed,qU (i+1) r]
def zhY (h:SRel S A0 O w0 A σ w st tm) (jr:JR S A0 O w0) {args:List AV} {vs:Array Value} (hl:vs.size=args.length) (hg:∀ (i:Nat) (x:AV),args[i]? = some x->Got S A σ w st x (vs.getD i undef))
  {g f:Nat} (hf:qz g S.fns=some f) {frz:Bool} (hc:zaH (zb S) frz [] f args d st v aa) :
  Calls S.P g vs w fun e w'=>∃ rv A' σ' w1,e=.returned rv∧RebR S w0 w1∧JR S A0 O w1∧SRel S A0 O w1 A' σ' w' aa tm∧Got S A' σ' w' aa v rv:=by
 obtain ⟨aj,r,outs,ae,ai,p1,p2,aO,p4,⟨p7,p8,p5⟩,p6⟩:=hc;obtain rfl:outs=[]:=by simpa[jd] using p8
 rw[qU] at p5 p6;simp only[ASt.dropL,yW,Option.some.injEq] at p5;subst p5;simp only[impE] at p6;rw[wB] at p1;have fm:zdJ S g aj r:=(aO g hf).old fun x hx=>(by obtain ⟨i,hi⟩:=AB.1 hx;obtain ⟨x0,_,az⟩:=(zu p1).2 i x hi;exact yE az);obtain ⟨a1,a2⟩:=zu p1;simp only[Bn,if_true] at p4;have sub:∀ {x0:AV} {j:Nat},args[j]? = some x0->∀ s∈x0.refs,s∈AV.refsL args:=fun hx s hs=>ze.2 ⟨_,Ad hx,hs⟩
 -- what is common
 have fin:∀ (A1:Nat->Prop) (σ1:Nat->Option Nat),SRel S A0 O w0 A1 σ1 w ae tm->(∀ (i:Nat) (x:AV),aj[i]? = some x->VR0 S A1 w x (vs.getD i undef)) ->
   Calls S.P g vs w fun e w'=>∃ rv A' σ' w1,e=.returned rv∧RebR S w0 w1∧JR S A0 O w1∧SRel S A0 O w1 A' σ' w' aa tm∧Got S A' σ' w' aa v rv:=by
  intro A1 σ1 h1 ha;refine (fm A1 w vs (by omega) ⟨h1.Alt,h1.inv⟩ (h1.jpreA jr) ha).mono fun e w' ⟨rv,he,hk,hj,hr⟩ => ?_;obtain ⟨q1,q2⟩:=h1.reb jr hk.size hj;obtain ⟨A',σ',k1,k2⟩:=imp_sound q1 hk.rebN hr.reb p6;exact ⟨rv,A',σ',_,he,zcM,q2,k1,k2⟩
 unfold settle at p4;split at p4
 ·rename_i fB;simp only[Option.some.injEq] at p4;subst p4;by_cases eU:AV.refsL args=[]
  ·exact fin A σ h fun i x hi=>by
    obtain ⟨x0,aq,az⟩:=a2 i x hi;have lO:x0.refs=[]:=Ay.2 fun s hs=>by have:=sub aq s hs;rw[eU] at this;cases this
    exact zck h (fun _ h=>h) (hg i x0 aq).rel az fun s b hb hh=>by rw[lO] at hh;simp at hh
  ·have eK:r.plain=true:=fB.resolve_right eU;rw[imp_plain eK] at p6;simp only[Option.some.injEq,Prod.mk.injEq] at p6;obtain ⟨rfl,rfl⟩:=p6;refine (fm (fun b=>A b∨∃ s,σ s=some b) w vs (by omega) ⟨fun b hb=>hb.elim (h.Alt b) fun ⟨s,hs⟩=>(h.dom s b hs).2.1,h.inv⟩ (h.jpre jr) fun i x hi => ?_).mono fun e w' ⟨rv,he,hk,hj,hr⟩ => ?_
   ·obtain ⟨x0,aq,az⟩:=a2 i x hi;exact zck h (fun _ h=>.inl h) (hg i x0 aq).rel az fun s b hb _=>.inr ⟨s,hb⟩
   ·obtain ⟨q1,q2⟩:=h.reb jr hk.size hj;have iL:=q1.grow hk.rebN (fun _ h=>h) (fun _ h=>.inl h) (fun b hb=>AP (h.Alt b hb) hk.size);have hv:VR0 S A w' r rv:=by
     obtain ⟨β,_,_,hr⟩:=hr;cases r with
     | own z es=>simp[AV.plain] at eK
     | tup rs =>
      obtain ⟨us,rfl,hl,ha⟩:=hr;refine .tup hl fun i x hx => ?_;have cd:=Af.1 eK x (Ad hx);have kQ:=ha i x hx;cases x with
      | own z es=>simp[AV.plain2] at cd
      | _=>exact zbh kQ.2 cd
     | _=>exact nk hr.2 eK
    exact ⟨rv,A,σ,_,he,zcM,q2,iL,.of0 hv,fun s hs=>(yl hv s hs).elim⟩
 ·split at p4
  ·rename_i fB gf;simp only[Option.some.injEq] at p4;subst p4;obtain ⟨A1,σ1,h1,m1,m2⟩:=h.freezeL (AV.refsL args) gf.2.2;have bX:∀ s∈AV.refsL args,cT st.hp s=true:=fun s hs=>Af.1 gf.2.1 s hs;exact fin A1 σ1 h1 fun i x hi=>by
    obtain ⟨x0,aq,az⟩:=a2 i x hi;refine zck h m1 (hg i x0 aq).rel az fun s b hb hh => ?_;rcases hh with hh | ⟨s',h1,h2⟩
    ·exact m2 s (sub aq s hh) b (bX s (sub aq s hh)) hb
    ·rw[bX s' (sub aq s' h1)] at h2;cases h2
  ·cases p4
end
def qw (S : Seat) : Prop := ∀ g id, qz g S.fns = some id → ∃ fn, S.P.funcs[g]? = some fn ∧ fn.body.isSome = true ∧ (fn.name == "runtime.NumGoroutine") = false
def zbN {S:Seat} (hS:qw S) {g id:Nat} (hg:qz g S.fns=some id) (args:Array Value) (w:World):(callFunc g args).run S.P w=.ok (.enter g args) w:=by
 obtain ⟨fn,h1,h2,h3⟩:=hS g id hg;cases hb:fn.body with
 | none=>rw[hb] at h2;cases h2
 | some c =>
  have gw : ¬ fn.name = "runtime.NumGoroutine" := by simpa using h3
  simp[callFunc,h1,gw,hb]
end
section
open Go Go.RowKit
section
variable {S:Seat} {A0:Nat->Prop} {O:Hnd} {w0:World} {A:Nat->Prop} {σ:Nat->Option Nat} {w:World} {st aa:ASt} {tm:Array Value} {df:List Deferred} {o:Oper} {v:AV} {d:Nat}
def zgb (h:SRel S A0 O w0 A σ w st tm) {s z:Nat} {es:List (List AV)} {v:Value} (hv:VR S A σ w (.lsl s z 0 es.length) v) (hb:st.hp s=some (.arr z es)):qD S A w (σ s) z es v:=by
 obtain ⟨b0,bb⟩:=h.hp s _ hb;refine ⟨b0, ?_⟩;rcases hv.lsl_inv with ⟨_,q2,q3,q4⟩ | ⟨b,o,cap,cs,el,e1,q0,q1,q2,q3,q4,q5⟩
 ·exact .inl ⟨q3,AE.1 q2,by rw[q4]⟩
 ·rcases bb with ⟨m1,m2⟩ | ⟨b',aA,bC,m1,m2,m3,m4,m5⟩
  ·rw[m1] at q0;cases q0
  ·obtain rfl:b'=b:=Option.some.inj (m1.symm.trans q0);rw[q3] at m2;cases m2;have ho:o=0:=by have:=q2 (.inr rfl);omega
   subst ho;exact .inr ⟨b',cap,cs,el,q0,e1,q1,q5,q3,by simpa using q4,m4,m5⟩
def zbR {hp:Nat->Option Blk} {muts:List Nat} (hm:muts.isEmpty=false):∀ (i:Nat) (args aj:List AV),zI hp muts i args=some aj->aj.length=args.length∧∀ (j:Nat) (x':AV),aj[j]? = some x'->∃ x,args[j]? = some x ∧
  ((handed muts (i+j)=true∧∃ s z es,x=.lsl s z 0 (List.length es)∧hp s=some (.arr z es)∧x'=.own z es)∨(handed muts (i+j)=false∧((x.refs=[]∧x'=x)∨(zaP muts=true∧fnOk hp x=true∧wA hp x=some x'))))
 | _,[],aj,h=>by
  simp only[zI,Option.some.injEq] at h;subst h;exact ⟨rfl,by simp⟩
 | i,x :: r,aj,h=>by
  simp only[zI] at h;split at h
  ·rename_i y ys h1 h2;cases h;obtain ⟨k1,k2⟩:=zbR hm (i+1) r ys h2;refine ⟨by simp[k1],fun j x' hx => ?_⟩;cases j with
   | zero =>
    simp at hx;subst hx;refine ⟨x,rfl, ?_⟩;rw[Bv];cases hh:handed muts i with
    | true =>
     rw[if_pos hh] at h1;split at h1
     ·split at h1
      ·split at h1
       ·rename_i hc;obtain ⟨rfl,rfl⟩:=hc;cases h1;exact .inl ⟨rfl,_,_,_,rfl,by assumption,rfl⟩
       ·cases h1
      ·cases h1
     ·cases h1
    | false =>
     rw[hh,hm] at h1;simp only[Aq,if_false] at h1;split at h1
     ·rename_i hr;cases h1;exact .inr ⟨rfl,.inl ⟨by simpa using hr,rfl⟩⟩
     ·split at h1
      ·rename_i hr;obtain ⟨q1,q2⟩:=Az.1 hr;exact .inr ⟨rfl,.inr ⟨q1,q2,h1⟩⟩
      ·cases h1
   | succ j =>
    simp only[AU] at hx ⊢;have:=k2 j x' hx
    rwa [show i+1+j=i+(j+1) by omega] at this
  ·cases h
def wF {muts:List Nat}:∀ (i:Nat) (args:List AV) (j s z o n:Nat),handed muts (i+j)=true->args[j]? = some (.lsl s z o n)->s∈zS muts i args
 | _,[],j,s,z,o,n,_,h=>by simp at h
 | i,x :: r,j,s,z,o,n,hh,h=>by
  simp only[zS,Ak];cases j with
  | zero =>simp at h;subst h;rw[Bv] at hh;rw[if_pos hh];exact .inl (by simp)
  | succ j =>refine .inr (wF (i+1) r j s z o n (by rwa [show i+1+j=i+(j+1) by omega]) (by simpa using h))
def zaS:∀ (a b:List Nat),qc (a++b)=true->qc b=true∧∀ s,s∈a->s∈b->False:=by
 intro a b
 induction a with
 | nil=>intro h;exact ⟨h,by simp⟩
 | cons x a ih =>
  intro h;simp only[AA,qc,Al,AN,A5,decide_eq_false_iff_not,Ak] at h;obtain ⟨k1,k2⟩:=ih h.2;refine ⟨k1,fun s hs hb => ?_⟩;rcases Ap.1 hs with rfl | hs
  ·exact h.1 (.inr hb)
  ·exact k2 s hs hb
def wG {muts:List Nat}:∀ (i:Nat) (args:List AV),qc (zS muts i args)=true->∀ (j k s z o n z' o' n':Nat),handed muts (i+j)=true->handed muts (i+k)=true->args[j]? = some (.lsl s z o n)->args[k]? = some (.lsl s z' o' n')->j=k
 | _,[],_,j,k,s,z,o,n,z',o',n',_,_,h,_=>by simp at h
 | i,x :: r,hn,j,k,s,z,o,n,z',o',n',hj,hk,h1,h2=>by
  simp only[zS] at hn;obtain ⟨n1,n2⟩:=zaS _ _ hn;have head:∀ (k z' o' n':Nat),handed muts i=true->x=.lsl s z o n->handed muts (i+(k+1))=true->r[k]? = some (.lsl s z' o' n')->False:=(by rintro k z' o' n' hi rfl hk hr;refine n2 s ?_ (wF (i+1) r k s z' o' n' (by rwa [show i+1+k=i+(k+1) by omega]) hr);rw[if_pos hi];simp);have iO:∀ (k z' o' n':Nat),handed muts i=true->x=.lsl s z' o' n'->handed muts (i+(k+1))=true->r[k]? = some (.lsl s z o n)->False:=(by rintro k z' o' n' hi rfl hk hr;refine n2 s ?_ (wF (i+1) r k s z o n (by rwa [show i+1+k=i+(k+1) by omega]) hr);rw[if_pos hi];simp);cases j with
  | zero =>
   cases k with
   | zero=>rfl
   | succ k =>simp only[B9,Option.some.injEq,AU] at h1 h2;exact (head k z' o' n' (by simpa using hj) h1 hk h2).elim
  | succ j =>
   cases k with
   | zero =>simp only[B9,Option.some.injEq,AU] at h1 h2;exact (iO j z' o' n' (by simpa using hk) h2 hj h1).elim
   | succ k =>simp only[AU] at h1 h2;rw[wG (i+1) r n1 j k s z o n z' o' n' (by rwa [show i+1+j=i+(j+1) by omega]) (by rwa [show i+1+k=i+(k+1) by omega]) h1 h2]
def yq {muts:List Nat}:∀ (i:Nat) (args:List AV) (s:Nat),s∈zD muts i args↔∃ j z o n,args[j]? = some (.lsl s z o n)∧handed muts (i+j)=true∧muts.contains (i+j)=false
 | _,[],s=>by simp[zD]
 | i,x :: r,s=>by
  have ih:=yq (muts:=muts) (i+1) r s;simp only[zD,Ak,ih];constructor
  ·rintro (h | ⟨j,z,o,n,h1,h2,h3⟩)
   ·split at h
    ·rename_i hc;simp only[Al,AN] at hc;split at h
     ·simp at h;subst h;exact ⟨0,_,_,_,rfl,by simpa using hc.1,by simpa using hc.2⟩
     ·cases h
    ·cases h
   ·exact ⟨j+1,z,o,n,by simpa using h1,by rwa [show i+(j+1)=i+1+j by omega],by rwa [show i+(j+1)=i+1+j by omega]⟩
  ·rintro ⟨j,z,o,n,h1,h2,h3⟩;cases j with
   | zero =>simp at h1;subst h1;rw[Bv] at h2 h3;left;rw[if_pos (by simp only[h2,h3];rfl)];simp
   | succ j =>right;exact ⟨j,z,o,n,by simpa using h1,by rwa [show i+1+j=i+(j+1) by omega],by rwa [show i+1+j=i+(j+1) by omega]⟩
def drop_none {st:ASt} {s r:Nat} (h:st.hp s=none):(st.drop r).hp s=none:=by
 simp only[ASt.drop,ASt.setH,upd];split
 ·rfl
 ·simp[ASt.scrub,h]
def drop_arr {st:ASt} {s r:Nat} (ah:s≠r) {z:Nat} {es:List (List AV)} (h:st.hp s=some (.arr z es)):(st.drop r).hp s=some (.arr z es):=by simp only[ASt.drop,ASt.setH,upd,if_neg ah,ASt.scrub,h,AH,zal]
def zen:∀ (l:List Nat) {st:ASt} {s:Nat},st.hp s=none->(st.dropL l).hp s=none
 | [],_,_,h=>h
 | r :: l,st,s,h=>zen l (drop_none h)
def zgJ:∀ (l:List Nat) {st:ASt} {s:Nat} {z:Nat} {es:List (List AV)},s ∉ l->st.hp s=some (.arr z es)->(st.dropL l).hp s=some (.arr z es)
 | [],_,_,_,_,_,h=>h
 | r :: l,st,s,z,es,hn,h=>zgJ l (fun hm=>hn (Ae _ hm)) (drop_arr (fun e=>hn (by subst e;exact Ai)) h)
def zeo:∀ (l:List Nat) {st:ASt} {s:Nat},s∈l->(st.dropL l).hp s=none
 | r :: l,st,s,h=>by
  by_cases e:s=r
  ·subst e;exact zen l (by simp[ASt.drop,ASt.setH,upd])
  ·exact zeo l ((Ap.1 h).resolve_left e)
def SRel.dropSL:∀ (l:List Nat) {σ:Nat->Option Nat} {st:ASt},SRel S A0 O w0 A σ w st tm->zdV l=true->∃ σ',SRel S A0 O w0 A σ' w (st.dropL l) tm∧(∀ s,s∈l->σ' s=none)∧∀ s,s ∉ l->σ' s=σ s
 | [],σ,st,h,_=>⟨σ,h,by simp,fun _ _=>rfl⟩
 | r :: l,σ,st,h,hl=>by
  simp only[zdV,A6,Al,AN] at hl;obtain ⟨σ',k1,k2,k3⟩:=SRel.dropSL l (h.dropS hl.1) hl.2;refine ⟨σ',k1,fun s hs => ?_,fun s hs => ?_⟩
  ·by_cases e:s∈l
   ·exact k2 s e
   ·rw[k3 s e,if_pos ((Ap.1 hs).resolve_right e)]
  ·rw[k3 s (fun e=>hs (Ae _ e)),if_neg (fun (e:s=r)=>hs (by subst e;exact Ai))]
def zbM {args:List AV}:∀ (outs:zcd) {st ai:ASt},yW args st outs=some ai->ai.fr=st.fr∧∀ s,(ai.hp s=st.hp s∧∀ i es z o n,(i,es)∈outs->args[i]?≠some (.lsl s z o n)) ∨
  ∃ i es z o n z0 aP,(i,es)∈outs∧args[i]? = some (.lsl s z o n)∧st.hp s=some (.arr z0 aP)∧ai.hp s=some (.arr z0 es)∧es.length=aP.length
 | [],st,ai,h=>by
  simp only[yW,Option.some.injEq] at h;subst h;exact ⟨rfl,fun s=>.inl ⟨rfl,by simp⟩⟩
 | (i,es) :: r,st,ai,h=>by
  simp only[yW] at h;split at h
  ·rename_i s0 z o n ha;split at h
   ·rename_i z0 aP hb;split at h
    ·rename_i hl;obtain ⟨k1,k2⟩:=zbM r h;refine ⟨k1,fun s => ?_⟩;by_cases e:s=s0
     ·subst e;have e1:(st.setH s (some (.arr z0 es))).hp s=some (.arr z0 es):=by simp[ASt.setH,upd]
      rcases k2 s with ⟨m1,m2⟩ | ⟨i',aL,z',o',n',z1,dw,m1,m2,m3,m4,m5⟩
      ·exact .inr ⟨i,es,z,o,n,z0,aP,by simp,ha,hb,m1.trans e1,hl⟩
      ·rw[e1] at m3;cases m3;exact .inr ⟨i',aL,z',o',n',z0,aP,Ae _ m1,m2,hb,m4,by omega⟩
     ·have e1:(st.setH s0 (some (.arr z0 es))).hp s=st.hp s:=by simp[ASt.setH,upd,e]
      rcases k2 s with ⟨m1,m2⟩ | ⟨i',aL,z',o',n',z1,dw,m1,m2,m3,m4,m5⟩
      ·refine .inl ⟨m1.trans e1,fun i' aL z' o' n' hm => ?_⟩;rcases Ap.1 hm with hm | hm
       ·cases hm;rw[ha];simp;intro e' _ _ _;exact absurd e'.symm e
       ·exact m2 i' aL z' o' n' hm
      ·exact .inr ⟨i',aL,z',o',n',z1,dw,Ae _ m1,m2,e1 ▸ m3,m4,m5⟩
    ·cases h
   ·cases h
  ·cases h
def SRel.after (h:SRel S A0 O w0 A σ w st tm) {w':World} {A' B:Nat->Prop} {ai:ASt} (hk:KeepO B w w') (mU:∀ b,A b->A' b∧¬ B b) (hA2:∀ b,A' b->A b∨w.heap.size<=b∨B b) (hA3:∀ b,A' b->b < w'.heap.size)
  (hA4:∀ s b,σ s=some b->¬ A' b) (hB:∀ b,B b->w0.heap.size<=b∨O b) (cp:ai.fr=st.fr)
  (cO:∀ s,(ai.hp s=st.hp s∧∀ b,σ s=some b->¬ B b)∨∃ z es aL,st.hp s=some (.arr z es)∧ai.hp s=some (.arr z aL)∧aL.length=es.length∧ws S A' σ w' s (.arr z aL)∧zbG σ σ w w' s) :
  SRel S A0 O w0 A' σ w' ai tm:=by
 have hA:∀ b,A b->w'.heap[b]? = w.heap[b]?:=fun b hb=>hk.block b (h.Alt b hb) (mU b hb).2;have bJ:∀ s,zbG σ σ w w' s:=fun s=>by
  rcases cO s with ⟨_,k2⟩ | ⟨_,_,_,_,_,_,_,k⟩
  ·exact ⟨rfl,fun b cs el hb hc=>⟨cs,by rw[hk.block b (h.dom s b hb).2.1 (k2 b hb)];exact hc,rfl⟩⟩
  ·exact k
 have fw:∀ s,st.hp s≠none->ai.hp s≠none:=fun s hs=>by
  rcases cO s with ⟨k1,_⟩ | ⟨_,_,_,_,k,_⟩
  ·rw[k1];exact hs
  ·rw[k];simp
 have lQ:∀ s cs,ai.hp s=some (.var cs)->st.hp s=some (.var cs):=fun s cs hs=>by
  rcases cO s with ⟨k1,_⟩ | ⟨_,_,_,_,k,_⟩
  ·rw[← k1];exact hs
  ·rw[k] at hs;cases hs
 refine ⟨fun k => ?_,fun s blk hb => ?_,fun k s hs => ?_,fun s cs hs s' ab => ?_,fun s b hs => ?_,h.inj,hA3,fun b hb => ?_, ?_, ?_,h.Olt⟩
 ·rw[cp];exact (h.fr k).mono (fun b hb=>(mU b hb).1) hA fun s _=>bJ s
 ·rcases cO s with ⟨k1,k2⟩ | ⟨z,es,aL,_,k2,_,k4,_⟩
  ·exact (h.hp s blk (k1 ▸ hb)).mono (fun b hb=>(mU b hb).1) hA rfl (fun b hb=>hk.block b (h.dom s b hb).2.1 (k2 b hb)) fun s' _=>bJ s'
  ·rw[k2] at hb;cases hb;exact k4
 ·rw[cp] at hs;exact fw s (h.dang k s hs)
 ·exact fw s' (h.dangV s cs (lQ s cs hs) s' ab)
 ·obtain ⟨d1,d2,d3,d4⟩:=h.dom s b hs;exact ⟨fw s d1,AP d2 hk.size,hA4 s b hs,d4⟩
 ·rcases hA2 b hb with hb | hb | hb
  ·exact h.Asub b hb
  ·exact .inr (.inl (AY h.keep.size hb))
  ·exact .inr (hB b hb)
 ·refine ⟨hk.os.trans h.keep.os,hk.tape.trans h.keep.tape,hk.output.trans h.keep.output,AY h.keep.size hk.size,fun k cC hO => ?_⟩;rw[hk.block k (AP cC h.keep.size) (fun hb=>(hB k hb).elim (fun e=>by omega) hO)];exact h.keep.block k cC hO
 ·refine h.kp.of fun s _ _=>⟨bJ s,fun z es he => ?_⟩;rcases cO s with ⟨k1,_⟩ | ⟨z',dw,aL,k1,k2,k3,_⟩
  ·exact ⟨es,k1.trans he,rfl⟩
  ·rw[k1] at he;cases he;exact ⟨aL,k2,k3⟩
def cG.same {w1 w':World} {E:Nat->Prop} {args:List AV} {vs:Array Value} {ι:Nat->Option Nat} {outs:zcd} {r:AV} {v:Value} (hs:w1.heap.size=w.heap.size) (hj:∀ i b,ι i=some b->w1.heap[b]? = w.heap[b]?) (h:cG S A E (zcc S args ι vs w w' outs) w w' r v):cG S A E (zcc S args ι vs w1 w' outs) w1 w' r v:=by
 obtain ⟨β,h1,h2,h3,h4⟩:=h;have e:jc (fun b=>A b∨E b) β w1 w'=jc (fun b=>A b∨E b) β w w':=by funext b;simp only[jc,hs]
 refine ⟨β,fun i b hb=>by rw[hs];exact h1 i b hb,h2, ?_,by rw[e];exact h4⟩;rw[e];intro i es z aP hm hx;obtain ⟨k1,k2,k3⟩:=h3 i es z aP hm hx;exact ⟨k1,k2,fun b cs el hb hc=>k3 b cs el hb (by rw[← hc,hj i b hb])⟩
def cG.reb {w':World} {E:Nat->Prop} {args:List AV} {vs:Array Value} {ι:Nat->Option Nat} {outs:zcd} {r:AV} {v:Value} (hj:∀ i b,ι i=some b->¬ S.jg b) (h:cG S A E (zcc S args ι vs w w' outs) w w' r v):cG S A E (zcc S args ι vs (zdT S w w') w' outs) (zdT S w w') w' r v :=
 h.same zY fun i b hb=>yj (hj i b hb)
def zdx {muts:List Nat}:∀ (i:Nat) (args:List AV) (j:Nat) (x:AV),args[j]? = some x->handed muts (i+j)=false->∀ s∈x.refs,s∈zaA muts i args
 | _,[],j,x,h,_,_,_=>by simp at h
 | i,y :: r,j,x,h,hh,s,hs=>by
  simp only[zaA,Ak];cases j with
  | zero =>simp at h;subst h;rw[Bv] at hh;rw[if_neg (by rw[hh];simp)];exact .inl hs
  | succ j=>exact .inr (zdx (i+1) r j x (by simpa using h) (by rwa [show i+1+j=i+(j+1) by omega]) s hs)
def zhh (h:SRel S A0 O w0 A σ w st tm) {B1:Nat->Prop} (hA:∀ b,A b->B1 b) (hV:∀ s b cs,σ s=some b->st.hp s=some (.var cs)->B1 b) {x y:AV} {v:Value} (hv:VR S A σ w x v) (hs:wA st.hp x=some y) (hk:fnOk st.hp x=true):VR0 S B1 w y v:=by
 cases x with
 | fn f caps =>
  simp only[wA] at hs;split at hs
  ·rename_i aA al;cases hs;obtain ⟨g,vs,rfl,k0,k1,k2⟩:=hv.fn_inv;obtain ⟨d1,d2⟩:=zu al;refine .fn k0 (by omega) fun j x hj => ?_;obtain ⟨x0,aq,az⟩:=d2 j x hj;have hc:zfe st.hp x0=true:=Af.1 hk x0 (Ad aq);have fj:=k2 j x0 aq;by_cases hp:∃ s off,x0=.pv s off
   ·obtain ⟨s,off,rfl⟩:=hp;simp only[zfe] at hc;split at hc
    ·rename_i cs hb;simp only[qj,hb] at az;split at az
     ·rename_i cs2 mH;cases az;obtain ⟨b,e,hσ⟩:=fj.pv_inv;rw[e];obtain ⟨b',us,el,m1,m2,m3,m4⟩:=h.hp _ _ hb;obtain rfl:b'=b:=Option.some.inj (m1.symm.trans hσ);obtain ⟨e1,e2⟩:=zu mH;have:=VR0.ep (S:=S) (A:=B1) (w:=w) (cs:=cs2) (off:=off) (b:=b') (o:=0) (u:=fun j=>us.getD j undef) (hV s b' cs hσ hb) (fun j hj=>by
       have:j < us.size:=by omega
       simp[World.cell?,m2,this,Array.getD]) (fun j x hj=>by
       obtain ⟨x0,aq,az⟩:=e2 j x hj;have hr:x0.refs=[]:=by simpa using Af.1 hc x0 (Ad aq)
       exact (yG h hA (m4 j x0 aq) az fun s' ab _ _=>by rw[hr] at ab;cases ab).1)
      simpa using this
     ·cases az
    ·cases hc
   ·have hr:x0.refs=[]:=by
     cases x0 with
     | pv s off=>exact absurd ⟨s,off,rfl⟩ hp
     | _=>simpa[zfe] using hc
    exact yF h hA fj az fun s b hb hh=>by rw[hr] at hh;simp at hh
  ·cases hs
 | _=>simp[fnOk] at hk
def cG.less {w':World} {B1 E:Nat->Prop} {args:List AV} {vs:Array Value} {ι:Nat->Option Nat} {outs:zcd} {r:AV} {v:Value} (h:cG S B1 E (zcc S args ι vs w w' outs) w w' r v) (hp:r.plain=true) (ho:(outs.all fun p=>p.2.all fun e=>e.all AV.plain1)=true):cG S A E (zcc S args ι vs w w' outs) w w' r v:=by
 obtain ⟨β,h1,h2,h3,h4⟩:=h;refine ⟨β,h1,h2,fun i es z aP hm hx => ?_, ?_⟩
 ·obtain ⟨k1,⟨q0,q1⟩,k3⟩:=h3 i es z aP hm hx;refine ⟨k1,⟨q0,q1.imp id ?_⟩,k3⟩;rintro ⟨b,cap,us,el,a1,a2,a3,a4,a5,a6,a7,a8⟩;refine ⟨b,cap,us,el,a1,a2,a3,a4,a5,a6,a7,fun i e c x hi hc=>yM (a8 i e c x hi hc) ?_⟩;have:=Af.1 (Af.1 ho _ hm) e (Ad hi);exact Af.1 this x (Ad hc)
 ·cases r with
  | own z es=>simp[AV.plain] at hp
  | tup rs =>
   obtain ⟨us,rfl,hl,ha⟩:=h4;refine ⟨us,rfl,hl,fun i x hx => ?_⟩;have cd:=Af.1 hp x (Ad hx);have kQ:=ha i x hx;cases x with
   | own z es=>simp[AV.plain2] at cd
   | _=>exact ⟨kQ.1,zbh kQ.2 cd⟩
  | _=>exact ⟨h4.1,nk h4.2 hp⟩
def zhZ (h:SRel S A0 O w0 A σ w st tm) (jr:JR S A0 O w0) {args:List AV} {vs:Array Value} (hl:vs.size=args.length) (hg:∀ (i:Nat) (x:AV),args[i]? = some x->Got S A σ w st x (vs.getD i undef))
  {g f:Nat} (hf:qz g S.fns=some f) {frz:Bool} {muts:List Nat} (hm:muts.isEmpty=false) (hc:zaH (zb S) frz muts f args d st v aa) :
  Calls S.P g vs w fun e w'=>∃ rv A' σ' w1,e=.returned rv∧RebR S w0 w1∧JR S A0 O w1∧SRel S A0 O w1 A' σ' w' aa tm∧Got S A' σ' w' aa v rv:=by
 obtain ⟨aj,r,outs,ae,ai,p1,p2,aO,p4,⟨p79,p8,p5⟩,p6⟩:=hc;obtain ⟨p7,p9⟩:=Az.1 p79;obtain ⟨a1,a2⟩:=zbR hm 0 args aj p1;simp only[A3] at a2;rw[hm] at p4;simp only[Aq,if_false,settle,or_true,if_true,Option.some.injEq] at p4;subst p4
 let ι:Nat->Option Nat:=fun i=>if handed muts i=true then (match args[i]? with | some (.lsl s _ _ _)=>σ s | _=>none) else none
 have ι1:∀ i b,ι i=some b->handed muts i=true∧∃ s z o n,args[i]? = some (.lsl s z o n)∧σ s=some b:=by
  intro i b hb;simp only[ι] at hb;split at hb
  ·rename_i hh;split at hb
   ·exact ⟨hh,_,_,_,_,by assumption,hb⟩
   ·cases hb
  ·cases hb
 have ι2:∀ i s z o n,handed muts i=true->args[i]? = some (.lsl s z o n)->ι i=σ s:=(by intro i s z o n hh hi;simp only[ι,if_pos hh,hi]);have same:∀ i j b,ι i=some b->ι j=some b->i=j:=(by intro i j b hi hj;obtain ⟨h1,s,z,o,n,h2,h3⟩:=ι1 i b hi;obtain ⟨nc,s',z',o',n',je,gw⟩:=ι1 j b hj;obtain rfl:=h.inj s s' b h3 gw;exact wG 0 args p2 i j s z o n z' o' n' (by simpa using h1) (by simpa using nc) h2 je);have argQ:∀ (B1:Nat->Prop),(∀ b,A b->B1 b)->((zaP muts=true->zaA muts 0 args=[])∨∀ s b cs,σ s=some b->st.hp s=some (.var cs)->B1 b)->∀ (i:Nat) (x:AV),aj[i]? = some x->zaJ S B1 w (ι i) x (vs.getD i undef):=by
  intro B1 iY e7 i x hx;obtain ⟨x0,aq,⟨hh,s,z,es,rfl,hb,rfl⟩ | ⟨hh,⟨hr,rfl⟩ | ⟨lT,hfn,n4⟩⟩⟩:=a2 i x hx
  ·rw[ι2 i _ _ _ _ hh aq];exact (zgb h (hg i _ aq).rel hb).mono iY
  ·have:ι i=none:=by simp only[ι,hh];rfl
   rw[this];exact jo (((hg i _ aq).rel.to0 hr).mono iY fun _ _=>rfl)
  ·have:ι i=none:=by simp only[ι,hh];rfl
   rw[this];refine jo ?_;rcases e7 with e7 | e7
   ·refine zck h iY (hg i _ aq).rel n4 fun s b hb hs => ?_;have hr:x0.refs=[]:=Ay.2 fun s hs=>(by have:=zdx (muts:=muts) 0 args i x0 aq (by simpa using hh) s hs;rw[e7 lT] at this;cases this);rw[hr] at hs;simp at hs
   ·exact zhh h iY e7 (hg i _ aq).rel n4 hfn
 obtain ⟨B1,iY,e7,argR,less⟩:∃ B1:Nat->Prop,(∀ b,A b->B1 b)∧(∀ b,B1 b->A b∨∃ s cs,σ s=some b∧st.hp s=some (.var cs))∧(∀ (i:Nat) (x:AV),aj[i]? = some x->zaJ S B1 w (ι i) x (vs.getD i undef)) ∧
   ∀ w' rv,cG S B1 (j7 ι outs) (zcc S aj ι vs w w' outs) w w' r rv->cG S A (j7 ι outs) (zcc S aj ι vs w w' outs) w w' r rv:=by
  simp only[zae,BM,AN,Al,BT] at p9;rcases p9 with (p9 | p9) | p9
  ·exact ⟨A,fun _ h=>h,fun _ h=>.inl h,argQ A (fun _ h=>h) (.inl fun e=>by rw[p9] at e;cases e),fun _ _ h=>h⟩
  ·exact ⟨A,fun _ h=>h,fun _ h=>.inl h,argQ A (fun _ h=>h) (.inl fun _=>p9),fun _ _ h=>h⟩
  ·exact ⟨fun b=>A b∨∃ s cs,σ s=some b∧st.hp s=some (.var cs),fun _ h=>.inl h,fun _ h=>h,argQ _ (fun _ h=>.inl h) (.inr fun s b cs h1 h2=>.inr ⟨s,cs,h1,h2⟩),fun _ _ h=>h.less p9.1 p9.2⟩
 have nB:∀ i b,ι i=some b->¬ B1 b:=by
  intro i b hb hB;obtain ⟨hh,s,z,o,n,h2,h3⟩:=ι1 i b hb;rcases e7 b hB with hA | ⟨s',cs,h4,h5⟩
  ·exact (h.dom s b h3).2.2.1 hA
  ·obtain rfl:=h.inj s s' b h3 h4;have hi:i < aj.length:=by rw[a1];exact (Ac.1 h2).1
   obtain ⟨x0,aq,⟨_,s1,z1,dw,e1,eN,_⟩ | ⟨hn,_⟩⟩:=a2 i _ (Aa hi)
   ·rw[h2] at aq;cases aq;cases e1;rw[h5] at eN;cases eN
   ·rw[hh] at hn;cases hn
 have iK:∀ i es,(i,es)∈outs->muts.contains i=true∧i < 1000:=by
  intro i es hi;have:i∈jd muts:=by rw[← p8];exact Am.2 ⟨_,hi,rfl⟩
  simp only[jd,Bz,BP] at this;exact ⟨by simpa[A5] using this.1,this.2⟩
 have eo:∀ i,muts.contains i=true->i < 1000->∃ es,(i,es)∈outs:=by
  intro i h1 h2;have:i∈outs.map (·.1):=by rw[p8];simp only[jd,Bz,BP];exact ⟨by simpa[A5] using h1,h2⟩
  obtain ⟨⟨j,es⟩,h3,rfl⟩:=Am.1 this;exact ⟨es,h3⟩
 have fD:∀ i,handed muts i=true->i < 1000:=(by intro i hi;simp only[handed,Al,BP] at hi;exact hi.1);obtain ⟨σ2,s1,s2,s3⟩:=SRel.dropSL (zD muts 0 args) h p7;obtain ⟨f1,f2⟩:=zbM outs p5;have hσ2:∀ s b,σ2 s=some b->σ s=some b∧s ∉ zD muts 0 args:=by
  intro s b hs;by_cases e:s∈zD muts 0 args
  ·rw[s2 s e] at hs;cases hs
  ·exact ⟨(s3 s e) ▸ hs,e⟩
 have mE:∀ b,j7 ι outs b->∃ s,s∈zD muts 0 args∧σ s=some b:=by
  rintro b ⟨i,hi,hn⟩;obtain ⟨h1,s,z,o,n,h2,h3⟩:=ι1 i b hi;refine ⟨s,(yq 0 args s).2 ⟨i,z,o,n,h2,by simpa using h1, ?_⟩,h3⟩;cases hq:muts.contains (0+i) with
  | false=>rfl
  | true =>obtain ⟨es,he⟩:=eo i (by simpa using hq) (fD i h1);exact absurd he (hn es)
 refine (aO g hf B1 w vs ι (by omega) ⟨fun b hb=>(e7 b hb).elim (h.Alt b) fun ⟨s,_,h1,_⟩=>(h.dom s b h1).2.1,h.inv⟩ ⟨fun i b hb => ?_,same⟩ ((h.jpre jr).mono (fun b hb=>(e7 b hb).imp id fun ⟨s,_,h1,_⟩=>⟨s,h1⟩) (fun _ h=>h) |> fun jp=>⟨jp.jn,jp.lt,jp.na,fun b hb ⟨i,hi⟩=>by obtain ⟨_,s,_,_,_,_,h3⟩:=ι1 i b hi;exact (h.jpre jr).na b hb (.inr ⟨s,h3⟩),jp.ng⟩) argR).mono ?_
 ·obtain ⟨_,s,z,o,n,h2,h3⟩:=ι1 i b hb;obtain ⟨_,d2,d3,d4⟩:=h.dom s b h3;refine ⟨by rw[a1];exact (Ac.1 h2).1,d2,nB i b hb,fun p hp e => ?_⟩;rcases d4 with d4 | d4
  ·have:=h.Olt.2.2.lt p hp;omega
  ·exact h.Olt.2.1 p hp (e ▸ d4)
 rintro e w' ⟨rv,he,cC,hj,gr⟩;obtain ⟨h,il⟩:=h.reb jr cC.size hj;obtain ⟨s1,_⟩:=s1.reb jr cC.size hj;have hk:=cC.reb;have hjA:∀ i b,ι i=some b->¬ S.jg b:=fun i b hi hb=>(by obtain ⟨_,s,_,_,_,_,h3⟩:=ι1 i b hi;exact (h.jpre il).na b hb (.inr ⟨s,h3⟩));have gr:=cG.reb hjA (less _ _ gr);have bN:RebR S w0 (zdT S w0 w'):=zcM;generalize zdT S w0 w'=W0 at *;generalize zdT S w w'=W at *;obtain ⟨β,hβ,aF,hT,hp⟩:=gr;have oa:∀ s b,σ2 s=some b->¬ j7 ι outs b:=(by intro s b hs hE;obtain ⟨s',q1,q2⟩:=mE b hE;obtain ⟨q3,q4⟩:=hσ2 s b hs;exact q4 (h.inj s s' b q3 q2 ▸ q1));have mT:∀ b,A b->¬ e9 ι b:=(by rintro b hb ⟨i,hi⟩;obtain ⟨_,s,z,o,n,_,h3⟩:=ι1 i b hi;exact (h.dom s b h3).2.2.1 hb);have oQ:∀ b,e9 ι b->W0.heap.size<=b∨O b:=(by rintro b ⟨i,hi⟩;obtain ⟨_,s,z,o,n,_,h3⟩:=ι1 i b hi;exact (h.dom s b h3).2.2.2);have mS:∀ b,j7 ι outs b->e9 ι b:=fun b ⟨i,hi,_⟩=>⟨i,hi⟩;have hrel:SRel S A0 O W0 (jc (fun b=>A b∨j7 ι outs b) β W w') σ2 w' ai tm:=by
  refine s1.after hk (fun b hb=>⟨⟨.inl (.inl hb),AP (h.Alt b hb) hk.size,fun i e => ?_⟩,mT b hb⟩) (fun b hb => ?_) (fun b hb=>hb.2.1) (fun s b hs hb => ?_) oQ f1 fun s => ?_
  ·rcases (hβ i b e).1 with q | q
   ·have:=h.Alt b hb;omega
   ·exact mT b hb (mS b q)
  ·rcases hb.1 with (q | q) | q
   ·exact .inl q
   ·exact .inr (.inr (mS b q))
   ·exact .inr (.inl q)
  ·rcases hb.1 with (q | q) | q
   ·exact (s1.dom s b hs).2.2.1 q
   ·exact oa s b hs q
   ·have:=(s1.dom s b hs).2.1;omega
  ·rcases f2 s with ⟨q1,q2⟩ | ⟨i,es,z,o,n,z0,aP,q1,q2,q3,q4,q5⟩
   ·refine .inl ⟨q1,fun b hb ⟨i,hi⟩ => ?_⟩;obtain ⟨q3,q4⟩:=hσ2 s b hb;obtain ⟨q5,s',z,o,n,q6,q7⟩:=ι1 i b hi;obtain rfl:=h.inj s s' b q3 q7;cases hq:muts.contains i with
    | true =>obtain ⟨es,he⟩:=eo i hq (fD i q5);exact q2 i es z o n he q6
    | false=>exact q4 ((yq 0 args s).2 ⟨i,z,o,n,q6,by simpa using q5,by simpa using hq⟩)
   ·obtain ⟨m1,m2⟩:=iK i es q1;have hh:handed muts i=true:=by simp only[handed,m1,C5,CE,BP];exact m2
    have aJ:i < aj.length:=by rw[a1];exact (Ac.1 q2).1
    have hx:=Aa aJ;obtain ⟨x0,aq,⟨_,s',z',aL,e1,ao,e2⟩ | ⟨oD,_⟩⟩:=a2 i _ hx
    ·rw[q2] at aq;cases aq;cases e1;have ah:s ∉ zD muts 0 args:=fun eV=>(by obtain ⟨j,z1,o1,n1,j1,j2,j3⟩:=(yq 0 args s).1 eV;have:=wG 0 args p2 i j s _ _ _ z1 o1 n1 (by simpa using hh) j2 q2 j1;subst this;simp only[A3] at j3;rw[m1] at j3;cases j3);have hd:=zgJ (zD muts 0 args) ah ao;rw[q3] at hd;cases hd;obtain ⟨t1,t2,t3⟩:=hT i es _ aP q1 (by rw[hx,e2]);have hι:ι i=σ2 s:=(ι2 i _ _ _ _ hh q2).trans (s3 s ah).symm;refine .inr ⟨_,aP,es,q3,q4,t1, ?_,rfl,fun b cs el hb al=>t3 b cs el (hι.trans hb) al⟩;exact (jG t2 hι.symm).2
    ·rw[hh] at oD;cases oD
 have hβ':∀ i b,β i=some b->b < w'.heap.size∧¬ jc (fun b=>A b∨j7 ι outs b) β W w' b∧(W0.heap.size<=b∨O b):=by
  intro i b hb;refine ⟨(hβ i b hb).2,fun hh=>hh.2.2 i hb, ?_⟩;rcases (hβ i b hb).1 with q | q
  ·exact .inl (AY h.keep.size q)
  ·exact oQ b (mS b q)
 have gG:∀ s b k,σ2 s=some b->β k≠some b:=by
  intro s b k hs hb;rcases (hβ k b hb).1 with q | q
  ·have:=(s1.dom s b hs).2.1;omega
  ·exact oa s b hs q
 -- the answer
 cases heq:zD muts 0 args with
 | nil =>rw[heq] at p6;simp only[impE] at p6;obtain ⟨σ',k⟩:=lu hrel hβ' aF gG hp p6;exact ⟨rv,_,σ',_,he,bN,il,k⟩
 | cons s0 rest =>
  rw[heq] at p6
  have put:∀ (z:Nat) (es:List (List AV)) (u:Value) (i:Nat),ai.hp s0=none->qD S (jc (fun b=>A b∨j7 ι outs b) β W w') w' (β i) z es u ->
    SRel S A0 O W0 (jc (fun b=>A b∨j7 ι outs b) β W w') (upd σ2 s0 (β i)) w' (ai.setH s0 (some (.arr z es))) tm∧VR S (jc (fun b=>A b∨j7 ι outs b) β W w') (upd σ2 s0 (β i)) w' (.lsl s0 z 0 es.length) u:=by
   intro z es u i hn ho;obtain ⟨v1,v2⟩:=jG ho (σ':=upd σ2 s0 (β i)) (qo _ _ _);exact ⟨hrel.addSite hn (b?:=β i) (blk:=.arr z es) rfl v2 fun b hb=>⟨(hβ' i b hb).1,(hβ' i b hb).2.1,(hβ' i b hb).2.2,fun s hs=>gG s b i hs hb⟩,v1⟩
  have plain:zhA r=true->(v,aa)=(r,ai)->∃ rv A' σ' w1,e=.returned rv∧RebR S w0 w1∧JR S A0 O w1∧SRel S A0 O w1 A' σ' w' aa tm∧Got S A' σ' w' aa v rv:=(by intro bO e1;cases e1;have p6':=kz bO d aa;obtain ⟨σ',k⟩:=lu hrel hβ' aF gG hp p6';exact ⟨rv,_,σ',_,he,bN,il,k⟩);unfold impE at p6;split at p6
  ·rename_i hq;cases hq
  ·rename_i fh nN hq;cases hq;split at p6
   ·rename_i z es;split at p6
    ·rename_i hn;simp only[Option.some.injEq,Prod.mk.injEq] at p6;obtain ⟨rfl,rfl⟩:=p6;obtain ⟨k1,k2⟩:=put z es rv 0 hn hp;exact ⟨rv,_,_,_,he,bN,il,k1,k2,fun s hs=>by rw[AV.refs,Ah] at hs;subst hs;simp[ASt.setH,upd]⟩
    ·cases p6
   ·rename_i z es gV;split at p6
    ·rename_i hn;split at p6
     ·rename_i hall;simp only[Option.some.injEq,Prod.mk.injEq] at p6;obtain ⟨rfl,rfl⟩:=p6;obtain ⟨us,rfl,hlen,dW⟩:=hp;obtain ⟨k1,k2⟩:=put z es (us.getD 0 undef) 0 hn (dW 0 _ rfl);have rest:∀ (i:Nat) (x:AV),gV[i]? = some x->VR0 S (jc (fun b=>A b∨j7 ι outs b) β W w') w' x (us.getD (i+1) undef):=fun i x hx =>
       (zag (dW (i+1) x (by simpa using hx)) (by simpa using Af.1 hall x (Ad hx))).2
      refine ⟨_,_,_,_,he,bN,il,k1,.tup (by simpa using hlen) fun i x hx => ?_,fun s hs => ?_⟩
      ·cases i with
       | zero=>simp at hx;subst hx;exact k2
       | succ i=>exact .of0 (rest i x (by simpa using hx))
      ·rw[AV.refs,ze] at hs;obtain ⟨x,hx,hs⟩:=hs;rcases Ap.1 hx with rfl | hx
       ·rw[AV.refs,Ah] at hs;subst hs;simp[ASt.setH,upd]
       ·obtain ⟨i,hi⟩:=AB.1 hx;exact (yl (rest i x hi) s hs).elim
     ·cases p6
    ·cases p6
   ·split at p6
    ·rename_i bO;exact plain bO (Option.some.inj p6).symm
    ·cases p6
end
end
end Ab
