import Derived.Test.YtkaifdgeigdbhaaGreatDoorA1
import Derived.Laws.Tables
import Derived.Great.BuildSlice
import Derived.Deep.DeepAppendWide
set_option linter.all false
namespace Ab
section
open Go Go.RowKit
section
variable {S:Seat} {A0:Nat->Prop} {O:Hnd} {w0:World} {A:Nat->Prop} {σ:Nat->Option Nat} {w:World} {st aa:ASt} {tm:Array Value} {df:List Deferred} {o:Oper} {v:AV} {d:Nat}
def o7 {x:Operand} (h:fB x=true):x=.const .nilIface:=by
 unfold fB at h;split at h
 ·rfl
 ·cases h
def zh6 {P:Program} {t:TypeId} {ms:Array (String×TypeId)} (hu:P.underlying t=some (.interface ms)) (w:World) :
  (Op.equal t .nilIface .nilIface).run P w=.ok true w∧(∀ T v,(Op.equal t (.iface T v) .nilIface).run P w=.ok false w)∧(∀ T v,(Op.equal t .nilIface (.iface T v)).run P w=.ok false w):=by
 have e1:∀ dd,(Op.equalIn (dd+1) t .nilIface .nilIface).run P w=.ok true w:=fun dd=>by simp[Op.equalIn,run_underlying hu]
 have e2:∀ dd T v,(Op.equalIn (dd+1) t (.iface T v) .nilIface).run P w=.ok false w:=fun dd T v=>by simp[Op.equalIn,run_underlying hu]
 have e3:∀ dd T v,(Op.equalIn (dd+1) t .nilIface (.iface T v)).run P w=.ok false w:=fun dd T v=>by simp[Op.equalIn,run_underlying hu]
 exact ⟨e1 9999,e2 9999,e3 9999⟩
def zfD (h:SRel S A0 O w0 A σ w st tm) {neg:Bool} {t u:TypeId} {ms:Array (String×TypeId)} {x y z:Operand} {z':AOpd} (ho:o.op=.binOp (if neg then .neq else .eql) t x y u) (hu:S.P.underlying t=some (.interface ms))
  (hz:(z=x∧fB y=true)∨(z=y∧fB x=true)) (h1:qp S z=some z') (ha:aop (.eqn false neg z') d st=some (v,aa)):wy S A0 O w0 w tm df o v aa:=by
 have g1:=h.ev (df:=df) h1;obtain ⟨k1,k2,k3⟩:=zh6 hu w
 have key:∀ b:Bool,((Act.eval ⟨tm,df⟩ z=.nilIface∧b=true)∨((∃ T v,Act.eval ⟨tm,df⟩ z=.iface T v)∧b=false)) ->
   (execOp (Act.eval ⟨tm,df⟩) o).run S.P w=.ok (.value (.bool (if neg then !b else b))) w:=by
  intro b hb;have ek:Act.eval ⟨tm,df⟩ (.const .nilIface)=.nilIface:=rfl;rcases hz with ⟨rfl,hy⟩ | ⟨rfl,hx⟩
  ·obtain rfl:=o7 hy;rcases hb with ⟨hb,rfl⟩ | ⟨⟨T,v,hb⟩,rfl⟩
   ·cases neg<;>simp[execOp,ho,hb,ek,eqGuard_nil_constR,binOp,k1]
   ·cases neg<;>simp[execOp,ho,hb,ek,eqGuard_at_iface,binOp,k2]
  ·obtain rfl:=o7 hx;rcases hb with ⟨hb,rfl⟩ | ⟨⟨T,v,hb⟩,rfl⟩
   ·cases neg<;>simp[execOp,ho,hb,ek,eqGuard_nil_constL,binOp,k1]
   ·cases neg<;>simp[execOp,ho,hb,ek,eqGuard_nil_iface,binOp,k3]
 simp only[aop,Ao,if_false] at ha;split at ha
 ·rename_i he;rw[he] at g1;simp only[Option.some.injEq,Prod.mk.injEq] at ha;obtain ⟨rfl,rfl⟩:=ha;exact .same h (rv:=.bool (!neg)) (by rw[key true (.inl ⟨g1.rel.v_inv,rfl⟩)];cases neg<;>rfl) (zeK _)
 ·rename_i k x1 he;rw[he] at g1;obtain ⟨T,v',e,_⟩:=g1.rel.ifc_inv;simp only[Option.some.injEq,Prod.mk.injEq] at ha;obtain ⟨rfl,rfl⟩:=ha;exact .same h (rv:=.bool neg) (by rw[key false (.inr ⟨⟨T,v',e⟩,rfl⟩)];cases neg<;>rfl) (zeK _)
 ·rename_i k x1 he;rw[he] at g1;simp only[Option.some.injEq,Prod.mk.injEq] at ha;obtain ⟨rfl,rfl⟩:=ha;exact .same h (rv:=.bool neg) (by rw[key false (.inr ⟨⟨_,_,g1.rel.v_inv⟩,rfl⟩)];cases neg<;>rfl) (zeK _)
 ·cases ha
def op_eqnS (h:SRel S A0 O w0 A σ w st tm) {neg:Bool} {t u e:TypeId} {x:Operand} {x':AOpd} (ho:o.op=.binOp (if neg then .neq else .eql) t x (.const (.slice none 0 0)) u) (hu:S.P.underlying t=some (.slice e))
  (h1:qp S x=some x') (ha:aop (.eqn true neg x') d st=some (v,aa)):wy S A0 O w0 w tm df o v aa:=by
 have g1:=h.ev (df:=df) h1;have k:∀ b n c,(Op.equal t (.slice b n c) (.slice none 0 0)).run S.P w=.ok b.isNone w:=by
  intro b n c;have e1:∀ dd,(Op.equalIn (dd+1) t (.slice b n c) (.slice none 0 0)).run S.P w=.ok b.isNone w:=fun dd=>by cases b<;>simp[Op.equalIn,run_underlying hu]
  exact e1 9999
 have key:∀ b n c,Act.eval ⟨tm,df⟩ x=.slice b n c->(execOp (Act.eval ⟨tm,df⟩) o).run S.P w=.ok (.value (.bool (if neg then !b.isNone else b.isNone))) w:=(by intro b n c hb;have e2:Act.eval ⟨tm,df⟩ (.const (.slice none 0 0))=.slice none 0 0:=rfl;cases neg<;>simp[execOp,ho,hb,e2,eqGuard_at_slice,binOp,k])
 simp only[aop,if_true] at ha;split at ha
 ·rename_i he;rw[he] at g1;simp only[Option.some.injEq,Prod.mk.injEq] at ha;obtain ⟨rfl,rfl⟩:=ha;exact .same h (rv:=.bool (!neg)) (by rw[key _ _ _ g1.rel.v_inv];cases neg<;>rfl) (zeK _)
 ·rename_i a l c he;rw[he] at g1;simp only[Option.some.injEq,Prod.mk.injEq] at ha;obtain ⟨rfl,rfl⟩:=ha;exact .same h (rv:=.bool neg) (by rw[key _ _ _ g1.rel.v_inv];cases neg<;>rfl) (zeK _)
 ·rename_i z e1 es he;rw[he] at g1;simp only[Option.some.injEq,Prod.mk.injEq] at ha;obtain ⟨rfl,rfl⟩:=ha;rcases g1.rel.sl_inv with ⟨hf,_⟩ | ⟨b,o',cap,u,e1,_⟩ | ⟨hf,_⟩
  ·cases hf
  ·exact .same h (rv:=.bool neg) (by rw[key _ _ _ e1];cases neg<;>rfl) (zeK _)
  ·cases hf
 ·cases ha
def scTy (P:Program) (t:TypeId):Sc->Prop
 | .int=>∃ k,P.underlying t=some (.int k)
 | .bool=>P.underlying t=some .bool
 | .str=>P.underlying t=some .string
def scEq_int {x y:AV} {r:Bool} (h:zks .int x y=some r):∃ k a b,x=.v (.int k a)∧y=.v (.int k b)∧r=decide (a=b):=by
 unfold zks at h;split at h
 ·rename_i k a k' b _;split at h
  ·rename_i hk;subst hk;cases h;exact ⟨_,_,_,rfl,rfl,rfl⟩
  ·cases h
 ·rename_i hh;cases hh
 ·rename_i hh;cases hh
 ·cases h
def scEq_bool {x y:AV} {r:Bool} (h:zks .bool x y=some r):∃ a b,x=.v (.bool a)∧y=.v (.bool b)∧r=decide (a=b):=by
 unfold zks at h;split at h
 ·rename_i hh;cases hh
 ·cases h;exact ⟨_,_,rfl,rfl,rfl⟩
 ·rename_i hh;cases hh
 ·cases h
def scEq_str {x y:AV} {r:Bool} (h:zks .str x y=some r):∃ a b,x=.v (.string a)∧y=.v (.string b)∧r=decide (a=b):=by
 unfold zks at h;split at h
 ·rename_i hh;cases hh
 ·rename_i hh;cases hh
 ·cases h;exact ⟨_,_,rfl,rfl,rfl⟩
 ·cases h
def scEq_run {P:Program} {s:Sc} {t:TypeId} {x y:AV} {a b:Value} {r:Bool} (h:zks s x y=some r) (ha:VR S A σ w x a) (hb:VR S A σ w y b) (ht:scTy P t s) (dd:Nat) (w1:World) :
  (Op.equalIn (dd+1) t a b).run P w1=.ok r w1:=by
 cases s with
 | int =>obtain ⟨k,n,m,rfl,rfl,rfl⟩:=scEq_int h;obtain ⟨k',ht⟩:=ht;rw[ha.v_inv,hb.v_inv,run_equalIn_int w1 dd t _ k' _ _ ht];by_cases he:n=m<;>simp[he]
 | bool =>obtain ⟨n,m,rfl,rfl,rfl⟩:=scEq_bool h;rw[ha.v_inv,hb.v_inv,run_equalIn_bool' w1 dd t _ _ ht];cases n<;>cases m<;>rfl
 | str =>obtain ⟨n,m,rfl,rfl,rfl⟩:=scEq_str h;rw[ha.v_inv,hb.v_inv,run_equalIn_string w1 dd t _ _ ht,zjA]
def zhq {P:Program} {cs ds:List AV} {xs ys:Array Value} (hx:cs.length=xs.size) (hy:ds.length=ys.size)
  (h1:∀ (i:Nat) (x:AV),cs[i]? = some x->VR S A σ w x (xs.getD i undef)) (h2:∀ (i:Nat) (x:AV),ds[i]? = some x->VR S A σ w x (ys.getD i undef)) (dd:Nat) (w1:World) :
  ∀ (fs:List Field) (l:List (Nat×Sc)) (r:Bool),gf P fs=some l->ziq cs ds l=some r->(Op.eqFields (dd+1) xs ys fs).run P w1=.ok r w1
 | [],l,r,hl,hr=>by
  simp only[gf,Option.some.injEq] at hl;subst hl;simp only[ziq,Option.some.injEq] at hr;subst hr;simp[Op.eqFields]
 | f :: fs,l,r,hl,hr=>by
  simp only[gf] at hl;split at hl
  ·cases hl
  ·rename_i hn
   have step:∀ (s:Sc) (l':List (Nat×Sc)),gf P fs=some l'->l=(f.offset,s) :: l' ->
     scTy P f.type s->(Op.eqFields (dd+1) xs ys (f :: fs)).run P w1=.ok r w1:=by
    intro s l' bn hle ht;subst hle;simp only[ziq] at hr;split at hr
    ·rename_i x y ex ey;split at hr
     ·rename_i a b ha hb;cases hr;have hi:f.offset < xs.size:=by have:=(Ac.1 ex).1;omega
      have hj:f.offset < ys.size:=by have:=(Ac.1 ey).1;omega
      have ih:=zhq hx hy h1 h2 dd w1 fs l' b bn hb;have ks:=scEq_run (P:=P) (t:=f.type) ha (h1 _ _ ex) (h2 _ _ ey) ht dd w1;have lj:(isAgg f.type).run P w1=.ok false w1:=by
       unfold isAgg;cases s with
       | int=>obtain ⟨k,ht⟩:=ht;rw[Sem.run_bind,run_underlying ht];rfl
       | bool=>rw[Sem.run_bind,run_underlying ht];rfl
       | str=>rw[Sem.run_bind,run_underlying ht];rfl
      have p1:(part f.type xs f.offset).run P w1=.ok (xs.getD f.offset undef) w1:=by simp[part,lj,Array.getD,hi]
      have p2:(part f.type ys f.offset).run P w1=.ok (ys.getD f.offset undef) w1:=by simp[part,lj,Array.getD,hj]
      simp only[Op.eqFields,ne_eq,hn,not_false_eq_true,if_true,Sem.run_bind,p1,p2,ks,Result.andThen_ok];cases a<;>simp[ih]
     ·cases hr
    ·cases hr
   split at hl
   ·rename_i k l' hu bn;cases hl;exact step .int l' bn rfl ⟨k,hu⟩
   ·rename_i l' hu bn;cases hl;exact step .bool l' bn rfl hu
   ·rename_i l' hu bn;cases hl;exact step .str l' bn rfl hu
   ·cases hl
def op_eqa (h:SRel S A0 O w0 A σ w st tm) {neg:Bool} {t u:TypeId} {fs:Array Field} {l:List (Nat×Sc)} {x y:Operand} {x' y':AOpd} (ho:o.op=.binOp (if neg then .neq else .eql) t x y u) (hu:S.P.underlying t=some (.struct fs))
  (hg:S.P.eqGuardType S.P.depth t=false) (hs:S.P.stoodInHeld t=false) (hl:gf S.P fs.toList=some l) (h1:qp S x=some x') (h2:qp S y=some y') (ha:aop (.eqa neg l x' y') d st=some (v,aa)):wy S A0 O w0 w tm df o v aa:=by
 have g1:=h.ev (df:=df) h1;have g2:=h.ev (df:=df) h2;have hf:S.P.fieldsOf t=fs:=by simp[Program.fieldsOf,hu]
 simp only[aop] at ha;split at ha
 ·rename_i cs ds db da;rw[db] at g1;rw[da] at g2;obtain ⟨xs,e1,l1,v1⟩:=g1.rel.agg_inv;obtain ⟨ys,e2,l2,v2⟩:=g2.rel.agg_inv;split at ha
  ·rename_i r hr;simp only[Option.some.injEq,Prod.mk.injEq] at ha;obtain ⟨rfl,rfl⟩:=ha;have ke:(Op.equalIn 10000 t (.agg xs) (.agg ys)).run S.P w=.ok r w:=(by rw[run_equalIn_agg w 9999 t xs ys (by rw[hf];exact hu) hs,hf];exact zhq l1 l2 v1 v2 9998 w fs.toList l r hl hr);refine .same h (rv:=.bool (if neg then !r else r)) ?_ (zeK _)
   cases neg
   ·simp[execOp,ho,e1,e2,run_eqGuard_agg w _ t x y xs ys hg,run_eql_struct,ke]
   ·simp[execOp,ho,e1,e2,run_eqGuard_agg w _ t x y xs ys hg,run_neq_struct,ke]
  ·cases ha
 ·cases ha
def SRel.evs (h:SRel S A0 O w0 A σ w st tm):∀ {xs:List Operand} {as:List AOpd},ziE S xs=some as ->
  xs.length=as.length∧∀ (i:Nat) (a:AV),(as.map st.ev)[i]? = some a->Got S A σ w st a ((xs.map (Act.eval ⟨tm,df⟩)).getD i undef)
 | [],as,hc=>by simp only[ziE,zd,Option.some.injEq] at hc;subst hc;exact ⟨rfl,by simp⟩
 | x :: xs,as,hc=>by
  simp only[ziE,zd] at hc;split at hc
  ·rename_i y ys hy cw;cases hc;obtain ⟨k1,k2⟩:=SRel.evs h (xs:=xs) cw;refine ⟨by simp[k1],fun i a hi => ?_⟩;cases i with
   | zero=>simp at hi;subst hi;simpa using h.ev hy
   | succ i=>simp at hi;simpa using k2 i a (by simpa using hi)
  ·cases hc
def op_mkfn (h:SRel S A0 O w0 A σ w st tm) {f id:Nat} {first caps:Array Operand} {l:List AOpd} (ho:o.op=.makeFunc (.func f) first caps) (hf:first.size=0) (hid:qy f S.fns=some id) (hl:ziE S caps.toList=some l)
  (ha:aop (.mkfn id l) d st=some (v,aa)):wy S A0 O w0 w tm df o v aa:=by
 obtain ⟨k1,k2⟩:=h.evs (df:=df) hl;simp only[aop,Option.some.injEq,Prod.mk.injEq] at ha;obtain ⟨rfl,rfl⟩:=ha;have kP:first=#[]:=Cq hf;have e:∀ i,(caps.map (Act.eval ⟨tm,df⟩)).getD i undef=(caps.toList.map (Act.eval ⟨tm,df⟩)).getD i undef:=(by intro i;simp[An,List.getD]);refine .same h (rv:=.func (.func f) #[] (caps.map (Act.eval ⟨tm,df⟩))) (by simp[execOp,ho,kP,Instr.makeFunc]) ⟨.fn hid (by simp at k1 ⊢;omega) fun i a hi => ?_,fun s hs => ?_⟩
 ·rw[e];exact (k2 i a hi).rel
 ·rw[AV.refs,ze] at hs;obtain ⟨x,hx,hs⟩:=hs;obtain ⟨i,hi⟩:=AJ.1 hx;exact (k2 i x hi).dang s hs
end
end
section
open Go Go.RowKit
section
variable {S:Seat} {A0:Nat->Prop} {O:Hnd} {w0:World} {A:Nat->Prop} {σ:Nat->Option Nat} {w:World} {st aa:ASt} {tm:Array Value} {df:List Deferred} {o:Oper} {v:AV} {d:Nat}
def wR.mono {A':Nat->Prop} {σ':Nat->Option Nat} {w':World} {s:Nat} {blk:Blk} (h:wR S A σ w s blk) (hA:∀ b,A b->A' b) (hw:∀ b,A b->w'.heap[b]? = w.heap[b]?)
  (hs:σ' s=σ s) (hb:∀ b,σ s=some b->w'.heap[b]? = w.heap[b]?) (hr:∀ s'∈blk.refs,zcg σ σ' w w' s'):wR S A' σ' w' s blk:=by
 cases blk with
 | var cs =>obtain ⟨b,vs,el,h1,h2,h3,h4⟩:=h;exact ⟨b,vs,el,hs.trans h1,(hb _ h1).trans h2,h3,fun i x hx=>(h4 i x hx).mono hA hw fun s' ae=>hr s' (by rw[Blk.refs];exact ze.2 ⟨x,Ad hx,ae⟩)⟩
 | arr z es =>
  obtain ⟨h0,⟨h1,h2⟩ | ⟨b,vs,el,h1,h2,h3,h5,h4⟩⟩:=h
  ·exact ⟨h0,.inl ⟨hs.trans h1,h2⟩⟩
  ·exact ⟨h0,.inr ⟨b,vs,el,hs.trans h1,(hb _ h1).trans h2,h3,h5,fun i e c x hi hc=>(h4 i e c x hi hc).mono hA hw⟩⟩
def KeepO.alloc (w:World) (O:Nat->Prop) (ob:Obj):KeepO O w (w.alloc ob):=⟨rfl,rfl,rfl,by simp,fun k hk _=>heap_alloc_old w ob k hk⟩
def KeepO.drew (w:World) (O:Nat->Prop):KeepO O w w.drew:=⟨rfl,rfl,rfl,AF _,fun _ _ _=>rfl⟩
def VR0.heap {w':World} (hw:w'.heap=w.heap) {x:AV} {v:Value} (h:VR0 S A w x v):VR0 S A w' x v:=h.mono (fun _ h=>h) fun _ _=>by rw[hw]
def VR.heap {w':World} (hw:w'.heap=w.heap) {x:AV} {v:Value} (h:VR S A σ w x v):VR S A σ w' x v :=
 h.mono (fun _ h=>h) (fun _ _=>by rw[hw]) fun s _=>⟨rfl,fun b cs el _ hb=>⟨cs,by rw[hw];exact hb,rfl⟩⟩
def SRel.drew (h:SRel S A0 O w0 A σ w st tm):SRel S A0 O w0 A σ w.drew st tm :=
 ⟨fun k=>VR.heap (w:=w) (w':=w.drew) rfl (h.fr k),fun s blk hb=>(h.hp s blk hb).mono (fun _ h=>h) (fun _ _=>rfl) rfl (fun _ _=>rfl) fun _ _=>⟨rfl,fun _ cs _ _ hb=>⟨cs,hb,rfl⟩⟩,
  h.dang,h.dangV,h.dom,h.inj,h.Alt,h.Asub,h.keep.trans (KeepO.drew _ _),h.kp.same (fun _ _=>⟨rfl,fun _ cs _ _ hb=>⟨cs,hb,rfl⟩⟩) (fun _ _ _ h _=>h),h.Olt⟩
def SRel.newBlk (h:SRel S A0 O w0 A σ w st tm) {d:Nat} (hd:st.hp d=none) {vs:Array Value} {el:TypeId} {blk:Blk} (hk:∀ s∈blk.refs,st.hp s≠none)
  (hb:wR S A (upd σ d (some w.heap.size)) (w.alloc (.cells vs el)) d blk) :
  SRel S A0 O w0 A (upd σ d (some w.heap.size)) (w.alloc (.cells vs el)) (st.setH d (some blk)) tm:=by
 have hσd:σ d=none:=by
  cases hq:σ d with
  | none=>rfl
  | some b=>exact absurd hd (h.dom d b hq).1
 have hA:∀ b,A b->(w.alloc (.cells vs el)).heap[b]? = w.heap[b]?:=fun b hb=>heap_alloc_old w _ b (h.Alt b hb);have b9:∀ s,st.hp s≠none->zcg σ (upd σ d (some w.heap.size)) w (w.alloc (.cells vs el)) s:=(by intro s hs;have ah:s≠d:=fun e=>hs (e ▸ hd);exact ⟨zcj _ _ _ ah,fun b cs bN hb hc=>⟨cs,by rw[heap_alloc_old w _ b (h.dom s b hb).2.1];exact hc,rfl⟩⟩)
 refine ⟨fun k=>(h.fr k).mono (fun _ h=>h) hA fun s hs=>b9 s (h.dang k s hs),fun s b hs => ?_,fun k s hs => ?_,fun s cs hs s' ae => ?_,fun s b hs => ?_,fun s s' b h1 h2 => ?_,
  fun b hb=>by have:=h.Alt b hb;simp;omega,h.Asub,h.keep.trans (KeepO.alloc _ _ _),h.kp.same b9 fun s z es he _=>by
   have ah:s≠d:=fun e=>by rw[e,hd] at he;cases he
   simp only[ASt.setH,upd,if_neg ah];exact he,h.Olt⟩
 ·simp only[ASt.setH,upd] at hs;split at hs
  ·rename_i e;subst e;cases hs;exact hb
  ·rename_i ah;refine (h.hp s b hs).mono (fun _ h=>h) hA (zcj _ _ _ ah) (fun b' aq=>heap_alloc_old w _ b' (h.dom s b' aq).2.1) fun s' ae=>b9 s' ?_;cases b with
   | var cs=>exact h.dangV s cs hs s' (by rw[Blk.refs] at ae;exact ae)
   | arr z es=>simp[Blk.refs] at ae
 ·simp only[ASt.setH,upd];split
  ·simp
  ·exact h.dang k s hs
 ·simp only[ASt.setH,upd] at hs ⊢;split
  ·simp
  ·split at hs
   ·cases hs;exact hk s' (by rw[Blk.refs];exact ae)
   ·exact h.dangV s cs hs s' ae
 ·simp only[upd] at hs;split at hs
  ·rename_i e;subst e;cases hs;refine ⟨by simp[ASt.setH,upd],by simp,fun ha => ?_,.inl h.keep.size⟩;have:=h.Alt _ ha;omega
  ·rename_i ah;obtain ⟨k1,k2,k3,k4⟩:=h.dom s b hs;exact ⟨by simp[ASt.setH,upd,ah];exact k1,by simp;omega,k3,k4⟩
 ·simp only[upd] at h1 h2;split at h1
  ·rename_i e1;subst e1;cases h1;split at h2
   ·rename_i e2;exact e2.symm
   ·have:=(h.dom s' _ h2).2.1;omega
  ·split at h2
   ·rename_i e2;subst e2;cases h2;have:=(h.dom s _ h1).2.1;omega
   ·exact h.inj s s' b h1 h2
def wC (w:World) (g:Nat) (old new:Array Value) (el:TypeId) (hg:w.heap[g]? = some (.cells old el (0,0))) (hs:new.size=old.size) (s:Nat):zcg σ σ w (w.setRow g new) s:=by
 refine ⟨rfl,fun b cs bN _ hc => ?_⟩;by_cases hb:b=g
 ·subst hb;rw[hg] at hc;cases hc;exact ⟨new,setRow_heap w b old new el _ hg,hs⟩
 ·exact ⟨cs,by rw[setRow_other w g b new hb];exact hc,rfl⟩
def SRel.setBlk (h:SRel S A0 O w0 A σ w st tm) {s b:Nat} (hσ:σ s=some b) {old new:Array Value} {el:TypeId} (hg:w.heap[b]? = some (.cells old el (0,0))) (hs:new.size=old.size) {blk:Blk}
  (hk:∀ s'∈blk.refs,st.hp s'≠none) (hb:wR S A σ (w.setRow b new) s blk) (hf:∀ z es,zbI s=true->st.hp s=some (.arr z es)->∃ aX,blk=.arr z aX∧aX.length=es.length):SRel S A0 O w0 A σ (w.setRow b new) (st.setH s (some blk)) tm:=by
 obtain ⟨d1,d2,d3,d4⟩:=h.dom s b hσ;have hA:∀ c,A c->(w.setRow b new).heap[c]? = w.heap[c]?:=fun c hc=>setRow_other w b c new (fun e=>d3 (e ▸ hc))
 refine ⟨fun k=>(h.fr k).mono (fun _ h=>h) hA fun s' _=>wC w b old new el hg hs s',fun s' b' ae => ?_,fun k s' ae => ?_,fun s' cs ae dJ bm => ?_,fun s' b' ae => ?_,h.inj,
  fun c hc=>by rw[size_setRow];exact h.Alt c hc,h.Asub,⟨h.keep.os,h.keep.tape,h.keep.output,by rw[size_setRow];exact h.keep.size,fun k hk hO => ?_⟩,
  h.kp.of fun s' dC hn=>⟨wC w b old new el hg hs s',fun z es he=>by
   simp only[ASt.setH,upd];split
   ·rename_i e;subst e;obtain ⟨aX,k1,k2⟩:=hf z es dC he;exact ⟨aX,by rw[k1],k2⟩
   ·exact ⟨es,he,rfl⟩⟩,h.Olt⟩
 ·simp only[ASt.setH,upd] at ae;split at ae
  ·rename_i e;subst e;cases ae;exact hb
  ·rename_i ah;refine (h.hp s' b' ae).mono (fun _ h=>h) hA rfl (fun c hc=>setRow_other w b c new fun e=>ah (h.inj s' s b (e ▸ hc) hσ)) fun dJ _=>wC w b old new el hg hs dJ
 ·simp only[ASt.setH,upd];split
  ·simp
  ·exact h.dang k s' ae
 ·simp only[ASt.setH,upd] at ae ⊢;split
  ·simp
  ·split at ae
   ·cases ae;exact hk dJ (by rw[Blk.refs];exact bm)
   ·exact h.dangV s' cs ae dJ bm
 ·obtain ⟨k1,k2,k3,k4⟩:=h.dom s' b' ae;refine ⟨?_,by rw[size_setRow];exact k2,k3,k4⟩;simp only[ASt.setH,upd];split
  ·simp
  ·exact k1
 ·rw[setRow_other w b k new (fun e=>by subst e;exact d4.elim (fun d4=>by omega) hO)];exact h.keep.block k hk hO
def SRel.scrub (h:SRel S A0 O w0 A σ w st tm) (s:Nat):SRel S A0 O w0 A σ w (st.scrub s) tm:=by
 have hx:∀ x v,VR S A σ w x v->VR S A σ w (Ab.scrub s x) v:=by
  intro x v hv;unfold Ab.scrub;split
  ·exact .of0 (.bot v)
  ·exact hv
 have hr:∀ x s',s'∈(Ab.scrub s x).refs->s'∈x.refs:=by
  intro x s' hs;unfold Ab.scrub at hs;split at hs
  ·simp[AV.refs] at hs
  ·exact hs
 have hn:∀ k,(st.scrub s).hp k≠none↔st.hp k≠none:=by intro k;simp[ASt.scrub]
 refine ⟨fun k=>hx _ _ (h.fr k),fun s' blk hb => ?_,fun k s' ae=>(hn s').2 (h.dang k s' (hr _ _ ae)),fun s' cs ae dJ bm=>(hn dJ).2 ?_,fun s' b ae => ?_,h.inj,h.Alt,h.Asub,h.keep,h.kp.same (fun _ _=>⟨rfl,fun _ cs _ _ hb=>⟨cs,hb,rfl⟩⟩) (fun s' z es he _=>by simp[ASt.scrub,he,zaK]),h.Olt⟩
 ·simp only[ASt.scrub,Ag] at hb;obtain ⟨b0,cr,rfl⟩:=hb;have:=h.hp s' b0 cr;cases b0 with
  | var cs =>obtain ⟨b,vs,el,h1,h2,h3,h4⟩:=this;refine ⟨b,vs,el,h1,h2,by simpa using h3,fun i x hi => ?_⟩;simp only[Au,Ag] at hi;obtain ⟨y,hy,rfl⟩:=hi;exact hx _ _ (h4 i y hy)
  | arr z es=>exact this
 ·simp only[ASt.scrub,Ag] at ae;obtain ⟨b0,cr,he⟩:=ae;cases b0 with
  | var gb =>simp only[zaK,Blk.var.injEq] at he;subst he;rw[ze] at bm;obtain ⟨x,bc,gv⟩:=bm;rw[Al] at bc;obtain ⟨y,hy,rfl⟩:=bc;exact h.dangV s' gb cr dJ (ze.2 ⟨y,hy,hr _ _ gv⟩)
  | arr z es=>simp[zaK] at he
 ·obtain ⟨k1,k2⟩:=h.dom s' b ae;exact ⟨(hn s').2 k1,k2⟩
def zeS (s:Nat) (x:AV):s ∉ (Ab.scrub s x).refs:=by
 unfold Ab.scrub;split
 ·simp[AV.refs]
 ·rename_i h;simpa using h
def VR.frz (h:SRel S A0 O w0 A σ w st tm) {s z0:Nat} {es:List (List AV)} (hb:st.hp s=some (.arr z0 es)) {x:AV} {v:Value} (hv:VR S A σ w x v) :
  VR S (fun b=>A b∨σ s=some b) (fun k=>if k=s then none else σ k) w (Ab.frz s z0 es x) v:=by
 have gen:x.refs.contains s=false->VR S (fun b=>A b∨σ s=some b) (fun k=>if k=s then none else σ k) w x v:=by
  intro hc;refine hv.mono (fun _ h=>.inl h) (fun _ _=>rfl) fun s' ae => ?_;have ah:s'≠s:=fun e=>by subst e;simp at hc;exact hc ae
  exact ⟨by simp[ah],fun b cs el _ hb=>⟨cs,hb,rfl⟩⟩
 obtain ⟨k0,iM⟩:=h.hp s _ hb;unfold Ab.frz;split
 ·rename_i s' z off len;split
  ·rename_i e;subst e;split
   ·rename_i hc;obtain ⟨rfl,hle⟩:=hc;have hlen:((es.drop off).take len).length=len:=by simp;omega
    rcases hv.lsl_inv with ⟨rfl,rfl,k1,rfl⟩ | ⟨b,o',cap,cs,el,rfl,k1,k2,k3,k4,k5,k6⟩
    ·exact .of0 (by simpa using VR0.slnil _)
    ·rcases iM with ⟨j1,_⟩ | ⟨b',vs,bN,j1,j2,j3,j5,j4⟩
     ·rw[j1] at k1;cases k1
     ·obtain rfl:b'=b:=Option.some.inj (j1.symm.trans k1);refine .of0 ?_;by_cases h0:len=0
      ·subst h0;simp only[BL];exact VR0.sl (es:=[]) (o:=o') (u:=fun _=>undef) (.inr k1) (BE _) (by simp) (by simp) (by simp) (by simp)
      ·have ho:=k3 (.inl (by omega));subst ho;have aD:len * z+off * z<=es.length * z:=by rw[← A6];exact AB _ (by omega)
       have:=VR0.sl (S:=S) (A:=fun b=>A b∨σ s'=some b) (w:=w) (z:=z) (es:=(es.drop off).take len) (b:=b') (o:=off * z) (cap:=cap) (u:=fun j=>vs.getD (off * z+j) undef) (.inr k1) (by omega)
        (fun e he=>k0 e (Bh (Bg he)))
        (fun j hj=>by
         rw[hlen] at hj;have:off * z+j < vs.size:=by omega
         simp[World.cell?,j2,this,Array.getD])
        (fun j hj=>by rw[hlen] at hj;exact j5 _ (by omega))
        (fun i e c a hi hc=>by
         have al:i < len:=by have:=(Ac.1 hi).1;omega
         rw[AZ al,Bm] at hi;have:=(j4 _ _ _ _ hi hc).mono (A':=fun b=>A b∨σ s'=some b) (fun _ h=>.inl h) (fun _ _=>rfl)
         rwa [A6,AY] at this)
       rwa [hlen] at this
   ·exact .of0 (.bot _)
  ·rename_i ah;exact gen (by simp[AV.refs,Ne.symm ah])
 ·rename_i s' z i off;split
  ·rename_i e;subst e;split
   ·rename_i hz;subst hz;split
    ·rename_i cs ak;obtain ⟨b,rfl,k1⟩:=hv.pe_inv;rcases iM with ⟨j1,_⟩ | ⟨b',vs,bN,j1,j2,j3,j5,j4⟩
     ·rw[j1] at k1;cases k1
     ·obtain rfl:b'=b:=Option.some.inj (j1.symm.trans k1);have aK:cs.length=z:=k0 _ (Ad ak);have hi:i < es.length:=(Ac.1 ak).1;have aD:(i+1) * z<=es.length * z:=AB _ hi;rw[A6] at aD;exact .of0 (.ep (.inr k1) (u:=fun j=>vs.getD (i * z+j) undef) (fun j hj=>by
       have:i * z+j < vs.size:=by omega
       simp[World.cell?,j2,this,Array.getD]) fun j x hj=>(j4 _ _ _ _ ak hj).mono (fun _ h=>.inl h) (fun _ _=>rfl))
    ·exact .of0 (.bot _)
   ·exact .of0 (.bot _)
  ·rename_i ah;exact gen (by simp[AV.refs,Ne.symm ah])
 ·split
  ·exact .of0 (.bot _)
  ·rename_i hc;exact gen (by simpa using hc)
def zjh (s z0:Nat) (es:List (List AV)) (x:AV) (s':Nat) (h:s'∈(Ab.frz s z0 es x).refs):s'∈x.refs∧s'≠s:=by
 unfold Ab.frz at h;split at h
 ·split at h
  ·split at h<;>simp[AV.refs] at h
  ·rename_i ah;simp[AV.refs] at h;subst h;exact ⟨by simp[AV.refs],ah⟩
 ·split at h
  ·split at h
   ·split at h<;>simp[AV.refs] at h
   ·simp[AV.refs] at h
  ·rename_i ah;simp[AV.refs] at h;subst h;exact ⟨by simp[AV.refs],ah⟩
 ·split at h
  ·simp[AV.refs] at h
  ·rename_i hc;exact ⟨h,fun e=>by subst e;simp at hc;exact hc h⟩
def SRel.freeze (h:SRel S A0 O w0 A σ w st tm) (s:Nat) (dC:zbI s=false):∃ A' σ',SRel S A0 O w0 A' σ' w (st.freeze s) tm∧(∀ b,A b->A' b)∧(∀ b,zbt st.hp s=true->σ s=some b->A' b) ∧
  (∀ s',s'≠s->σ' s'=σ s'∧zbt (st.freeze s).hp s'=zbt st.hp s'):=by
 unfold ASt.freeze;split
 ·rename_i z es hb
  refine ⟨fun b=>A b∨σ s=some b,fun k=>if k=s then none else σ k,⟨fun k=>VR.frz h hb (h.fr k),fun s' blk ae => ?_,fun k s' ae => ?_,fun s' cs ae dJ bm => ?_,fun s' b ae => ?_,fun s1 s2 b h1 h2 => ?_,
   fun b aq => ?_,fun b aq => ?_,h.keep,h.kp.of fun s' ae hn => ?_,h.Olt⟩,fun b hb=>.inl hb,fun b _ hs=>.inr hs,fun s' ah=>⟨by simp[ah], ?_⟩⟩
  ·dsimp only at ae
   split at ae
   ·cases ae
   ·rename_i ah;simp only[Ag] at ae;obtain ⟨b0,cr,rfl⟩:=ae;have hr:=h.hp s' b0 cr;cases b0 with
    | var cs =>obtain ⟨b,vs,el,h1,h2,h3,h4⟩:=hr;refine ⟨b,vs,el,by simp[ah,h1],h2,by simpa using h3,fun i x hi => ?_⟩;simp only[Au,Ag] at hi;obtain ⟨y,hy,rfl⟩:=hi;exact VR.frz h hb (h4 i y hy)
    | arr z' aX =>exact hr.mono (fun _ h=>.inl h) (fun _ _=>rfl) (by simp[ah]) (fun _ _=>rfl) (by simp[Blk.refs])
  ·obtain ⟨k1,k2⟩:=zjh _ _ _ _ _ ae;have:=h.dang k s' k1;simp[k2,this]
  ·dsimp only at ae
   split at ae
   ·cases ae
   ·simp only[Ag] at ae;obtain ⟨b0,cr,he⟩:=ae;cases b0 with
    | var gb =>simp only[frzB,Blk.var.injEq] at he;subst he;rw[ze] at bm;obtain ⟨x,bc,gv⟩:=bm;rw[Al] at bc;obtain ⟨y,hy,rfl⟩:=bc;obtain ⟨k1,k2⟩:=zjh _ _ _ _ _ gv;have:=h.dangV s' gb cr dJ (ze.2 ⟨y,hy,k1⟩);simp[k2,this]
    | arr z' aX=>simp[frzB] at he
  ·split at ae
   ·cases ae
   ·rename_i ah;obtain ⟨k1,k2,k3,k4⟩:=h.dom s' b ae;exact ⟨by simp[ah,k1],k2,fun hh=>hh.elim k3 fun e=>ah (h.inj s' s b ae e),k4⟩
  ·split at h1
   ·cases h1
   ·split at h2
    ·cases h2
    ·exact h.inj s1 s2 b h1 h2
  ·rcases aq with aq | aq
   ·exact h.Alt b aq
   ·exact (h.dom s b aq).2.1
  ·rcases aq with aq | aq
   ·exact h.Asub b aq
   ·exact .inr (h.dom s b aq).2.2.2
  ·have ah:s'≠s:=fun e=>by rw[e,dC] at ae;cases ae
   exact ⟨⟨by simp[ah],fun b cs el _ hb=>⟨cs,hb,rfl⟩⟩,fun z es he=>⟨es,by simp[ah,he,frzB],rfl⟩⟩
  ·simp only[zbt,if_neg ah];cases hq:st.hp s' with
   | none=>simp
   | some b0=>cases b0<;>simp[frzB]
 ·rename_i hn;refine ⟨A,σ,h,fun _ h=>h,fun b hb _ => ?_,fun s' _=>⟨rfl,rfl⟩⟩;unfold zbt at hb;split at hb
  ·rename_i z es he;exact absurd he (hn z es)
  ·cases hb
def SRel.freezeL:∀ (l:List Nat) {A:Nat->Prop} {σ:Nat->Option Nat} {st:ASt},SRel S A0 O w0 A σ w st tm->zeH l=true->∃ A' σ',SRel S A0 O w0 A' σ' w (st.freezeL l) tm∧(∀ b,A b->A' b) ∧
  (∀ s∈l,∀ b,zbt st.hp s=true->σ s=some b->A' b)
 | [],A,σ,st,h,_=>⟨A,σ,h,fun _ h=>h,by simp⟩
 | s :: r,A,σ,st,h,hl=>by
  simp only[zeH,A8,Am,AR] at hl;obtain ⟨A1,σ1,h1,m1,k1,k2⟩:=h.freeze s hl.1;obtain ⟨A2,σ2,h2,m2,k3⟩:=SRel.freezeL r h1 hl.2;refine ⟨A2,σ2,h2,fun b hb=>m2 b (m1 b hb),fun s' ae b ha hs => ?_⟩;by_cases e:s'=s
  ·subst e;exact m2 b (k1 b ha hs)
  ·obtain ⟨e1,e2⟩:=k2 s' e;rcases Ar.1 ae with ae | ae
   ·exact absurd ae e
   ·exact k3 s' ae b (e2.trans ha) (e1.trans hs)
end
end
section
open Go Go.RowKit
section
variable {S:Seat} {A0:Nat->Prop} {O:Hnd} {w0:World} {A:Nat->Prop} {σ:Nat->Option Nat} {w:World} {st aa:ASt} {tm:Array Value} {df:List Deferred} {o:Oper} {v:AV} {d:Nat}
def oZ (h:SRel S A0 O w0 A σ w st tm) (hd:st.hp d=none) {cs:List AV} {y:Value} {e:TypeId} (hr:(execOp (Act.eval ⟨tm,df⟩) o).run S.P w=.ok (.value (.pointer (some ⟨w.heap.size,0,none⟩))) (w.alloc (.cells y.cells e)))
  (h1:cs.length=y.cells.size) (h2:∀ (i:Nat) (a:AV),cs[i]? = some a->VR S A σ w a (y.cells.getD i undef)) (h3:∀ s∈AV.refsL cs,st.hp s≠none) :
  wy S A0 O w0 w tm df o (.pv d 0) (st.setH d (some (.var cs))):=by
 refine ⟨_,_,A,_,hr,h.newBlk (vs:=y.cells) (el:=e) (blk:=.var cs) hd (by rw[Blk.refs];exact h3) ?_,.inl ⟨_,rfl,.pv (qt _ _ _),fun s hs => ?_⟩⟩
 ·refine ⟨w.heap.size,y.cells,e,qt _ _ _,heap_alloc_new w _,by omega,fun i x hx=>(h2 i x hx).mono (fun _ h=>h) (fun b hb=>heap_alloc_old w _ b (h.Alt b hb)) fun s hs => ?_⟩;have ae:=h3 s (ze.2 ⟨x,Ad hx,hs⟩);have ah:s≠d:=fun e=>ae (e ▸ hd);exact ⟨zcj _ _ _ ah,fun b cs bN hb hc=>⟨cs,by rw[heap_alloc_old w _ b (h.dom s b hb).2.1];exact hc,rfl⟩⟩
 ·rw[AV.refs,Ah] at hs;subst hs;simp[ASt.setH,upd]
def op_box (h:SRel S A0 O w0 A σ w st tm) {e:TypeId} {x:Operand} {x':AOpd} (ho:o.op=.box e x) (h1:qp S x=some x') (ha:aop (.box x') d st=some (v,aa)):wy S A0 O w0 w tm df o v aa:=by
 have g1:=h.ev (df:=df) h1;simp only[aop] at ha;split at ha
 ·rename_i cs ak hd;simp only[Option.some.injEq,Prod.mk.injEq] at ha;obtain ⟨rfl,rfl⟩:=ha;obtain ⟨k1,k2,k3,k4⟩:=g1.rel.cells ak;exact oZ h hd (y:=Act.eval ⟨tm,df⟩ x) (e:=e) (by simp[execOp,ho,Instr.box,newVar,newRow]) k1 k2 fun s hs=>g1.dang s ((k4 s).1 hs)
 ·cases ha
def jW {P:Program} {t:TypeId} {l:List Value} (h:fe P t=some l):∃ i z,P.info? t=some i∧i.zero=some z∧z.cells.toList=l∧z.cells.size=i.size∧0 < i.size∧∀ x∈l,zab x=true:=by
 unfold fe at h;split at h
 ·rename_i i hi;split at h
  ·rename_i z hz;split at h
   ·rename_i hc;cases h;exact ⟨i,z,hi,hz,rfl,hc.1,hc.2.1,Af.1 hc.2.2⟩
   ·cases h
  ·cases h
 ·cases h
def ziQ {z:Value} (i:Nat) (a:AV) (hi:(z.cells.toList.map AV.v)[i]? = some a):VR S A σ w a (z.cells.getD i undef):=by simp only[Au,Ag] at hi;obtain ⟨y,hy,rfl⟩:=hi;have:z.cells.getD i undef=y:=(by rw[An];simp only[Bp] at hy;rw[hy];rfl);rw[this];exact .of0 (.v y)
def refsL_v (l:List Value):AV.refsL (l.map AV.v)=[]:=by
 induction l with
 | nil=>rfl
 | cons x r ih=>simp[AV.refsL,AV.refs,ih]
def op_alloc (h:SRel S A0 O w0 A σ w st tm) {e:TypeId} {l:List Value} (ho:o.op=.alloc e) (hz:fe S.P e=some l) (ha:aop (.alloc l) d st=some (v,aa)):wy S A0 O w0 w tm df o v aa:=by
 obtain ⟨i,z,k1,k2,rfl,k4,k5,_⟩:=jW hz;simp only[aop] at ha;split at ha
 ·rename_i hd;simp only[Option.some.injEq,Prod.mk.injEq] at ha;obtain ⟨rfl,rfl⟩:=ha;exact oZ h hd (y:=z) (e:=e) (by simp[execOp,ho,Instr.alloc,zeroValue,typeInfo,k1,k2,newVar,newRow]) (by simp) (fun i a hi=>ziQ i a hi) (by rw[refsL_v];simp)
 ·cases ha
def jD {cs new:List AV} {off:Nat} (h:off+new.length<=cs.length):(qO cs off new).length=cs.length:=by simp[qO];omega
def jK {cs new:List AV} {off:Nat} (h:off+new.length<=cs.length) (i:Nat):(qO cs off new)[i]? = if off<=i∧i < off+new.length then new[i - off]? else cs[i]?:=by
 have ht:(cs.take off).length=off:=by simp;omega
 unfold qO;by_cases h1:i < off
 ·rw[if_neg (by omega),AG,Aw (by omega),AZ h1]
 ·by_cases h2:i < off+new.length
  ·rw[if_pos (by omega),AG,AM (by omega),ht,Aw (by omega)]
  ·rw[if_neg (by omega),AM (by simp;omega),Bm];congr 1;simp;omega
def zf_list (off:Nat):∀ (l:List Value) (k:Nat) (arr:Array Value),off+k+l.length<=arr.size ->
  ((l.zipIdx k).foldl (fun cs p=>cs.setIfInBounds (off+p.2) p.1) arr).size=arr.size ∧
  ∀ i,((l.zipIdx k).foldl (fun cs p=>cs.setIfInBounds (off+p.2) p.1) arr).getD i undef=if off+k<=i∧i < off+k+l.length then l.getD (i - (off+k)) undef else arr.getD i undef
 | [],k,arr,_=>by
  refine ⟨rfl,fun i => ?_⟩;simp only[List.zipIdx_nil,C6,BB];rw[if_neg (by omega)]
 | x :: r,k,arr,h=>by
  simp only[As] at h;obtain ⟨h1,h2⟩:=zf_list off r (k+1) (arr.setIfInBounds (off+k) x) (by simp;omega);simp only[List.zipIdx_cons,Bw];refine ⟨by rw[h1];simp,fun i => ?_⟩;rw[h2 i,yI _ _ _ _ _ (by omega)];simp only[As];by_cases e1:off+(k+1)<=i∧i < off+(k+1)+r.length
  ·rw[if_pos e1,if_pos (by omega),show i - (off+k)=(i - (off+(k+1)))+1 by omega];rfl
  ·rw[if_neg e1];by_cases e2:i=off+k
   ·subst e2;rw[if_pos rfl,if_pos (by omega)];simp
   ·rw[if_neg e2,if_neg (by omega)]
def zf_arr (off:Nat) (vs arr:Array Value) (h:off+vs.size<=arr.size) :
  (vs.zipIdx.foldl (fun cs (c,j)=>cs.setIfInBounds (off+j) c) arr).size=arr.size ∧
  ∀ i,(vs.zipIdx.foldl (fun cs (c,j)=>cs.setIfInBounds (off+j) c) arr).getD i undef=if off<=i∧i < off+vs.size then vs.getD (i - off) undef else arr.getD i undef:=by
 have:=zf_list off vs.toList 0 arr (by simpa using h);rw[← Array.foldl_toList,Array.toList_zipIdx];refine ⟨this.1,fun i => ?_⟩;have h2:=this.2 i;simp only[BC,Bi] at h2;refine h2.trans ?_;congr 1;simp[An,List.getD]
def fill_ok {R:AV->Value->Prop} (place:Nat->Option (Nat×Nat)):∀ (ps:List (Nat×List AV)) (zero res:List AV) (rs:List (Nat×Value)) (arr:Array Value),
  zio zero ps=some res->zero.length=arr.size->(∀ (i:Nat) (a:AV),zero[i]? = some a->R a (arr.getD i undef))->ps.length=rs.length ->
  (∀ (j:Nat) (p:Nat×List AV) (r:Nat×Value),ps[j]? = some p->rs[j]? = some r->place r.1=some (p.1,p.2.length)∧p.2.length=r.2.cells.size∧∀ (i:Nat) (a:AV),p.2[i]? = some a->R a (r.2.cells.getD i undef)) ->
  ∃ az,Instr.fill place arr rs=some az∧res.length=az.size∧∀ (i:Nat) (a:AV),res[i]? = some a->R a (az.getD i undef)
 | [],zero,res,rs,arr,hf,hl,hr,hn,_=>by
  cases rs with
  | nil=>simp only[zio,Option.some.injEq] at hf;subst hf;exact ⟨arr,rfl,hl,hr⟩
  | cons=>simp at hn
 | (off,cs) :: ps,zero,res,rs,arr,hf,hl,hr,hn,hp=>by
  cases rs with
  | nil=>simp at hn
  | cons r rs =>
   obtain ⟨k1,k2,k3⟩:=hp 0 (off,cs) r rfl rfl;simp only at k1 k2 k3;simp only[zio] at hf;split at hf
   ·rename_i hle;obtain ⟨z1,z2⟩:=zf_arr off r.2.cells arr (by omega);obtain ⟨az,f1,f2,f3⟩:=fill_ok place ps (qO zero off cs) res rs _ hf (by rw[jD hle,z1];exact hl) (fun i a hi=>by
     rw[jK hle] at hi;rw[z2];split at hi
     ·rename_i hc;rw[if_pos (by omega)];exact k3 _ _ hi
     ·rename_i hc;rw[if_neg (by omega)];exact hr _ _ hi) (by simpa using hn) (fun j p r hj hk=>hp (j+1) p r (by simpa using hj) (by simpa using hk))
    refine ⟨az, ?_,f2,f3⟩;obtain ⟨ri,rv⟩:=r;have k2':cs.length=rv.cells.size:=k2;simp only[Instr.fill,k1];rw[if_neg (by simp;omega)];exact f1
   ·cases hf
def zx {α β:Type} {f:α->Option β}:∀ {xs:List α} {ys:List β},zd f xs=some ys->xs.length=ys.length∧∀ (i:Nat) (y:β),ys[i]? = some y->∃ x,xs[i]? = some x∧f x=some y
 | [],ys,h=>by simp only[zd,Option.some.injEq] at h;subst h;exact ⟨rfl,by simp⟩
 | x :: xs,ys,h=>by
  simp only[zd] at h;split at h
  ·rename_i y bD hy cw;cases h;obtain ⟨h1,h2⟩:=zx cw;refine ⟨by simp[h1],fun i y' hi => ?_⟩;cases i with
   | zero=>simp at hi;subst hi;exact ⟨x,rfl,hy⟩
   | succ i=>simp at hi;obtain ⟨x',h3,h4⟩:=h2 i y' hi;exact ⟨x',by simpa using h3,h4⟩
  ·cases h
def zaL {P:Program}:∀ (fs:List Field) (l:List Nat),zd (fun (f:Field)=>wV P f.type) fs=some l ->
  ∃ places,fs.mapM (fun f=>(P.info? f.type).map fun i=>(f.offset,i.size))=some places∧∀ (j:Nat) (f:Field) (n:Nat),fs[j]? = some f->wV P f.type=some n->places[j]? = some (f.offset,n)
 | [],l,_=>⟨[],rfl,by simp⟩
 | f :: fs,l,h=>by
  simp only[zd] at h;split at h
  ·rename_i y ys hy cw;obtain ⟨places,h1,h2⟩:=zaL fs ys cw;obtain ⟨i,hi,rfl⟩:∃ i,P.info? f.type=some i∧i.size=y:=by simpa[wV] using hy
   refine ⟨(f.offset,i.size) :: places,by simp[C5,hi,h1],fun j f' n hj hn => ?_⟩;cases j with
   | zero=>simp at hj;subst hj;simp[wV,hi] at hn;subst hn;rfl
   | succ j=>simp at hj;simpa using h2 j f' n hj hn
  ·cases h
def op_build (h:SRel S A0 O w0 A σ w st tm) {t:TypeId} {ps:Array (Nat×Operand)} {fs:Array Field} {zero:List Value} {l:List (Nat×Nat×AOpd)} {szs:List Nat} (ho:o.op=.build t ps) (hu:S.P.underlying t=some (.struct fs))
  (hz:fe S.P t=some zero) (hl:zd (fun (p:Nat×Operand)=>match zea S.P t p.1,qp S p.2 with | some f,some x=>(match wV S.P f.type with | some n=>some (f.offset,n,x) | none=>none) | _,_=>none) ps.toList=some l)
  (hs:zd (fun (f:Field)=>wV S.P f.type) fs.toList=some szs) (ha:aop (.build zero l) d st=some (v,aa)):wy S A0 O w0 w tm df o v aa:=by
 obtain ⟨i,z,k1,k2,rfl,k4,k5,_⟩:=jW hz;obtain ⟨places,p1,p2⟩:=zaL _ _ hs;simp only[aop] at ha;split at ha
 ·rename_i pcs eI;split at ha
  ·rename_i res aR;simp only[Option.some.injEq,Prod.mk.injEq] at ha;obtain ⟨rfl,rfl⟩:=ha;obtain ⟨a1,a2⟩:=zx hl;obtain ⟨b1,b2⟩:=zx eI
   have main:=fill_ok (R:=fun a x=>Got S A σ w st a x) (fun x=>places[x]?) pcs (z.cells.toList.map AV.v) res (ps.toList.map fun p=>(p.1,Act.eval ⟨tm,df⟩ p.2)) z.cells aR (by simp)
    (fun i a hi=>⟨ziQ i a hi,fun s hs=>by have:=ze.2 ⟨a,Ad hi,hs⟩;rw[refsL_v] at this;cases this⟩) (by rw[Ap];omega)
    (fun j p r hj hr=>by
     obtain ⟨q,hq,bO⟩:=b2 j p hj;obtain ⟨q0,fK,cX⟩:=a2 j q hq;simp only[Au,fK,AN,Option.some.injEq] at hr;subst hr;split at cX
     ·rename_i f x hf hx;split at cX
      ·rename_i n hn;cases cX;simp only at bO;split at bO
       ·rename_i cs ak;split at bO
        ·rename_i hlen;cases bO;have g:=h.ev (df:=df) hx;obtain ⟨c1,c2,c3,c4⟩:=g.rel.cells ak;refine ⟨?_,c1,fun i a hi=>⟨c2 i a hi,fun s hs=>g.dang s ((c4 s).1 (ze.2 ⟨a,Ad hi,hs⟩))⟩⟩;have hfj:fs.toList[q0.1]? = some f:=by simpa[zea,hu] using hf
         simp only[hlen];exact p2 _ _ _ hfj hn
        ·cases bO
       ·cases bO
      ·cases cX
     ·cases cX)
   obtain ⟨az,f1,f2,f3⟩:=main;refine .same h (rv:=.agg az) ?_ ⟨.agg f2 fun i a hi=>(f3 i a hi).rel,fun s hs => ?_⟩
   ·have hb:S.P.built t (ps.map fun (i,x)=>(i,Act.eval ⟨tm,df⟩ x)).toList=some az:=(by simp only[Program.built,k1,hu,k2,p1];simpa using f1);have:=run_build (P:=S.P) w t _ az hb;simp[execOp,ho,this]
   ·rw[AV.refs,ze] at hs;obtain ⟨x,hx,hs⟩:=hs;obtain ⟨i,hi⟩:=AJ.1 hx;exact (f3 i x hi).dang s hs
  ·cases ha
 ·cases ha
end
end
section
open Go Go.RowKit
section
variable {S:Seat} {A0:Nat->Prop} {O:Hnd} {w0:World} {A:Nat->Prop} {σ:Nat->Option Nat} {w:World} {st aa:ASt} {tm:Array Value} {df:List Deferred} {o:Oper} {v:AV} {d:Nat}
structure RowRel (R:AV->Value->Prop) (z:Nat) (es:List (List AV)) (arr:Array Value):Prop where
 size:arr.size=es.length * z
 each:∀ e∈es,e.length=z
 rel:∀ (i:Nat) (e:List AV) (c:Nat) (x:AV),es[i]? = some e->e[c]? = some x->R x (arr.getD (i * z+c) undef)
 one:∀ j,j < arr.size->(arr.getD j undef).oneCell'=true
def zhi {i c z n:Nat} (hi:i < n) (hc:c < z):i * z+c < n * z:=by have:(i+1) * z<=n * z:=AB _ hi;rw[A6] at this;omega
def zhg {i j c z:Nat} (h1:j * z<=i * z+c) (h2:i * z+c < j * z+z) (hc:c < z):i=j:=by
 rcases Nat.lt_trichotomy i j with h | h | h
 ·have:(i+1) * z<=j * z:=AB _ h;rw[A6] at this;omega
 ·exact h
 ·have:(j+1) * z<=i * z:=AB _ h;rw[A6] at this;omega
def mA {R:AV->Value->Prop} {z:Nat}:∀ (ps:List (Nat×List AV)) (es:List (List AV)) (rs:List (Nat×Value)) (arr:Array Value),RowRel R z es arr->ps.length=rs.length ->
  (∀ (j:Nat) (p:Nat×List AV) (r:Nat×Value),ps[j]? = some p->rs[j]? = some r->r.1=p.1∧p.1 < es.length∧p.2.length=z∧p.2.length=r.2.cells.size∧(∀ (i:Nat) (a:AV),p.2[i]? = some a->R a (r.2.cells.getD i undef)) ∧
   ∀ x∈r.2.cells.toList,x.oneCell'=true) ->
  ∃ az,Instr.fill (fun i=>some (i * z,z)) arr rs=some az∧RowRel R z (ps.foldl (fun es p=>es.set p.1 p.2) es) az
 | [],es,rs,arr,h,hn,_=>by
  cases rs with
  | nil=>exact ⟨arr,rfl,h⟩
  | cons=>simp at hn
 | (k,cs) :: ps,es,rs,arr,h,hn,hp=>by
  cases rs with
  | nil=>simp at hn
  | cons r rs =>
   obtain ⟨ri,rv⟩:=r;obtain ⟨k1,k2,k3,k4,k5,k6⟩:=hp 0 (k,cs) (ri,rv) rfl rfl;simp only at k1 k2 k3 k4 k5 k6;subst k1;have hle:ri * z+rv.cells.size<=arr.size:=(by rw[h.size,← k4,k3];have:(ri+1) * z<=es.length * z:=AB _ k2;rw[A6] at this;omega);obtain ⟨z1,z2⟩:=zf_arr (ri * z) rv.cells arr hle;have h':RowRel R z (es.set ri cs) (rv.cells.zipIdx.foldl (fun cs (c,j)=>cs.setIfInBounds (ri * z+j) c) arr):=by
    refine ⟨by rw[z1,h.size];simp,fun e he => ?_,fun i e c x hi hc => ?_,fun j hj => ?_⟩
    ·rcases CL he with he | rfl
     ·exact h.each e he
     ·exact k3
    ·rw[z2];by_cases nC:ri=i
     ·subst nC;rw[Ci k2] at hi;cases hi;have aK:=(Ac.1 hc).1;rw[if_pos (by omega),show ri * z+c - ri * z=c by omega];exact k5 c x hc
     ·have ah:=nC;rw[B7 nC] at hi;have nZ:=h.each e (Ad hi);have aK:=(Ac.1 hc).1;rw[if_neg (fun hh=>ah (zhg hh.1 (by omega) (by omega)).symm)];exact h.rel i e c x hi hc
    ·rw[z2];rw[z1] at hj;by_cases hc:ri * z<=j∧j < ri * z+rv.cells.size
     ·rw[if_pos hc];apply k6;have:j - ri * z < rv.cells.size:=by omega
      rw[Da];simp[Array.getD,this]
     ·rw[if_neg hc];exact h.one j hj
   obtain ⟨az,f1,f2⟩:=mA ps (es.set ri cs) rs _ h' (by simpa using hn) (fun j p r hj hk=>by simpa using hp (j+1) p r (by simpa using hj) (by simpa using hk));refine ⟨az, ?_,f2⟩;simp only[Instr.fill];rw[if_neg (by simp;omega)];exact f1
def zhT {R:AV->Value->Prop} {z:Value} {n:Nat} (hs:0 < z.cells.size) (hR:∀ x∈z.cells.toList,R (.v x) x) (h1:∀ x∈z.cells.toList,x.oneCell'=true) :
  RowRel R z.cells.size (List.replicate n (z.cells.toList.map AV.v)) ((Array.range (n * z.cells.size)).map (z.cells[· % z.cells.size]!)):=by
 have get:∀ j,j < n * z.cells.size->((Array.range (n * z.cells.size)).map (z.cells[· % z.cells.size]!)).getD j undef=z.cells[j % z.cells.size]'(Co _ hs):=(by intro j hj;have hm:=Co j hs;simp[Array.getD,hj,getElem!_pos,hm]);refine ⟨by simp,fun e he => ?_,fun i e c x hi hc => ?_,fun j hj => ?_⟩
 ·rw[List.mem_replicate] at he;rw[he.2];simp
 ·rw[List.getElem?_replicate] at hi;split at hi
  ·rename_i bK;cases hi;have aK:=(Ac.1 hc).1;simp only[Ap,Bi] at aK;simp only[Au,Ag] at hc;obtain ⟨y,hy,rfl⟩:=hc;rw[get _ (zhi bK aK)];have nJ:(i * z.cells.size+c) % z.cells.size=c:=by rw[Ca,Nat.mul_add_mod];exact Cp aK
   have hyv:z.cells[(i * z.cells.size+c) % z.cells.size]'(Co _ hs)=y:=by
    have:z.cells[c]? = some y:=by simpa using hy
    obtain ⟨h2,h3⟩:=Bs.1 this;simp only[nJ,h3]
   rw[hyv];exact hR y (Ad hy)
  ·cases hi
 ·simp only[Array.size_map,Array.size_range] at hj;rw[get j hj];exact h1 _ (by rw[Da];exact Array.getElem_mem _)
def RowRel.blk {z:Nat} {es:List (List AV)} {arr:Array Value} {w':World} {σ':Nat->Option Nat} {s b:Nat} {el:TypeId} (h:RowRel (VR0 S A w') z es arr) (hσ:σ' s=some b) (hb:w'.heap[b]? = some (.cells arr el (0,0))) :
  wR S A σ' w' s (.arr z es) :=
 ⟨h.each,.inr ⟨b,arr,el,hσ,hb,by rw[h.size];exact AF _,fun j hj=>h.one j (by rw[h.size];exact hj),h.rel⟩⟩
def RowRel.imp {R R':AV->Value->Prop} {z:Nat} {es:List (List AV)} {arr:Array Value} (h:RowRel R z es arr) (hr:∀ x v,R x v->R' x v):RowRel R' z es arr :=
 ⟨h.size,h.each,fun i e c x hi hc=>hr _ _ (h.rel i e c x hi hc),h.one⟩
def zaT {x:Value} (h:zab x=true):x.oneCell'=true:=by cases x<;>simp_all[zab,Value.oneCell']
def wg (h:SRel S A0 O w0 A σ w st tm) {A':Nat->Prop} (hA:∀ b,A b->A' b) {x y:AV} {v:Value} (hv:VR S A σ w x v) (hs:qj st.hp x=some y) (hr:∀ s∈x.refs,∀ b,σ s=some b->A' b) :
  VR0 S A' w y v∧∀ s∈x.refs,zbt st.hp s=true:=by
 unfold qj at hs;split at hs
 ·rename_i s z i off;split at hs
  ·rename_i z' es hb;split at hs
   ·rename_i hz;split at hs
    ·rename_i cs ak;cases hs;have:=VR.frz h hb hv;simp only[Ab.frz,if_true,hz,ak] at this;refine ⟨?_,fun s' ae=>by rw[AV.refs,Ah] at ae;subst ae;simp[zbt,hb]⟩;cases this with
     | of0 h0=>exact h0.mono (fun b (hb:A b∨σ s=some b)=>hb.elim (hA b) (hr s (by simp[AV.refs]) b)) (fun _ _=>rfl)
    ·cases hs
   ·cases hs
  ·cases hs
 ·rename_i s z off len;split at hs
  ·rename_i z' es hb;split at hs
   ·rename_i hz;cases hs;have:=VR.frz h hb hv;simp only[Ab.frz,if_true,hz.1,hz.2,and_self] at this;refine ⟨?_,fun s' ae=>by rw[AV.refs,Ah] at ae;subst ae;simp[zbt,hb]⟩;cases this with
    | of0 h0=>exact (hz.1 ▸ h0).mono (fun b (hb:A b∨σ s=some b)=>hb.elim (hA b) (hr s (by simp[AV.refs]) b)) (fun _ _=>rfl)
   ·cases hs
  ·cases hs
 ·cases hs
 ·split at hs
  ·rename_i he;cases hs;have fU:x.refs=[]:=by simpa using he
   exact ⟨(hv.to0 fU).mono hA (fun _ _=>rfl),by rw[fU];simp⟩
  ·cases hs
def zcA:∀ (l:List Nat) {st:ASt} {d:Nat},st.hp d=none->(st.freezeL l).hp d=none
 | [],_,_,h=>h
 | s :: r,st,d,h=>by
  refine zcA r ?_;unfold ASt.freeze;split
  ·simp[h]
  ·exact h
def jX {P:Program} {t:TypeId} {p:TypeId×Nat} (h:zeN P t=some p):P.underlying t=some (.slice p.1)∧∃ i,P.info? p.1=some i∧i.size=p.2∧0 < i.size∧i.size<=128∧i.bytes<=zkh i.size:=by
 unfold zeN at h;split at h
 ·rename_i e hu;split at h
  ·rename_i i hi;split at h
   ·rename_i hc;cases h;exact ⟨hu,i,hi,rfl,hc.1,hc.2.1,hc.2.2⟩
   ·cases h
  ·cases h
 ·cases h
def run_bsl {P:Program} (w:World) (t e:TypeId) (len:Nat) (parts:Array (Nat×Value)) (cells:Array Value) (ie:TypeInfo) (z:Value)
  (hu:P.underlying t=some (.slice e)) (rp:P.info? e=some ie) (hz:ie.zero=some z) (gA:¬ len * ie.size > 2 ^ 24)
  (h:Instr.fill (fun i=>some (i * ie.size,ie.size)) ((Array.range (len * ie.size)).map (z.cells[· % z.cells.size]!)) parts.toList=some cells) :
  (Instr.buildSlice t len parts).run P w=.ok (.slice (some ⟨w.heap.size,0,none⟩) len len) (w.alloc (.cells cells e)):=by
 by_cases aT:len * ie.size=0
 ·rw[aT] at h;have h0:(Array.range 0).map (z.cells[· % z.cells.size]!)=#[]:=by rw[Array.map_eq_empty_iff];exact Cq (by simp)
  rw[h0] at h;simp[Instr.buildSlice,run_underlying hu,Go.sizeOf,typeInfo,rp,aT,newRow];have h2:∀ f:Nat->Value,Array.map f (Array.range 0)=#[]:=fun f=>by rw[Array.map_eq_empty_iff];exact Cq (by simp)
  simp[h2,h]
 ·exact run_buildSlice w t e len parts cells ie z hu rp hz gA aT h
def op_bslice (h:SRel S A0 O w0 A σ w st tm) {t e:TypeId} {i:TypeInfo} {z:Value} {len:Nat} {ps:Array (Nat×Operand)} {l:List (Nat×AOpd)} {frz:Bool} (ho:o.op=.buildSlice t len ps) (hu:S.P.underlying t=some (.slice e)) (hi:S.P.info? e=some i) (hz:i.zero=some z)
  (bE:z.cells.size=i.size) (aT:0 < i.size) (bM:i.size<=128) (aQ:∀ x∈z.cells.toList,zab x=true) (hl:zd (fun (p:Nat×Operand)=>if p.1 < len then (qp S p.2).map fun x=>(p.1,x) else none) ps.toList=some l)
  (hlen:len<=4096) (ha:aop (.bslice frz i.size z.cells.toList len l) d st=some (v,aa)):wy S A0 O w0 w tm df o v aa:=by
 simp only[aop] at ha;split at ha
 ·rename_i pcs hd eI;split at ha
  ·simp only[Option.some.injEq,Prod.mk.injEq] at ha;obtain ⟨rfl,rfl⟩:=ha;obtain ⟨A1,σ1,h1,m1,m2⟩:=h.freezeL (qS st l) (by
    rename_i cJ;rcases cJ with cJ | cJ
    ·exact cJ.2
    ·rw[cJ];rfl)
   obtain ⟨a1,a2⟩:=zx hl;obtain ⟨b1,b2⟩:=zx eI;have zr:=zhT (R:=VR0 S A1 w) (z:=z) (n:=len) (by omega) (fun x _=>.v x) (fun x hx=>zaT (aQ x hx));rw[bE] at zr
   obtain ⟨az,f1,f2⟩:=mA (R:=VR0 S A1 w) (z:=i.size) pcs (List.replicate len (z.cells.toList.map AV.v)) (ps.toList.map fun p=>(p.1,Act.eval ⟨tm,df⟩ p.2)) _ zr (by rw[Ap];omega)
    (fun j p r hj hr=>by
     obtain ⟨q,hq,bO⟩:=b2 j p hj;obtain ⟨q0,fK,cX⟩:=a2 j q hq;simp only[Au,fK,AN,Option.some.injEq] at hr;subst hr;split at cX
     ·rename_i al;simp only[Ag] at cX;obtain ⟨x,hx,rfl⟩:=cX;split at bO
      ·rename_i gb gS;split at bO
       ·rename_i cs ak;split at bO
        ·rename_i aK;cases bO;have g:=h.ev (df:=df) hx;obtain ⟨c1,c2,c3,c4⟩:=g.rel.cells gS;obtain ⟨d1,d2⟩:=zx ak;refine ⟨rfl,by simpa using al,aK,by simp only;omega,fun i a hi => ?_,c3⟩;obtain ⟨x0,ax,aC⟩:=d2 i a hi;have fp:∀ s∈x0.refs,s∈qS st l:=fun s hs=>(by unfold qS;rw[ze];exact ⟨st.ev x,Al.2 ⟨_,Ad hq,rfl⟩,(c4 s).1 (ze.2 ⟨x0,Ad ax,hs⟩)⟩);have arrs:=(wg h (A':=fun _=>True) (fun _ _=>trivial) (c2 i x0 ax) aC (fun _ _ _ _=>trivial)).2;exact (wg h m1 (c2 i x0 ax) aC fun s hs b hb=>m2 s (fp s hs) b (arrs s hs) hb).1
        ·cases bO
       ·cases bO
      ·cases bO
     ·cases cX)
   have au:=run_bsl (P:=S.P) w t e len (ps.map fun (i,x)=>(i,Act.eval ⟨tm,df⟩ x)) az i z hu hi hz (by
     have:len * i.size<=4096 * 128:=BN hlen bM
     omega) (by rw[bE];simpa using f1)
   have ml:RowRel (VR0 S A1 (w.alloc (.cells az e))) i.size (pcs.foldl (fun es p=>es.set p.1 p.2) (List.replicate len (z.cells.toList.map AV.v))) az :=
    f2.imp fun x v hx=>hx.mono (fun _ h=>h) fun b hb=>heap_alloc_old w _ b (h1.Alt b hb)
   have cK:(pcs.foldl (fun es p=>es.set p.1 p.2) (List.replicate len (z.cells.toList.map AV.v))).length=len:=by
    have:∀ (ps:List (Nat×List AV)) (es:List (List AV)),(ps.foldl (fun es p=>es.set p.1 p.2) es).length=es.length:=by
     intro ps
     induction ps with
     | nil=>intro es;rfl
     | cons p ps ih=>intro es;simp only[Bw];rw[ih];simp
    rw[this];simp
   refine ⟨.value (.slice (some ⟨w.heap.size,0,none⟩) len len),_,A1,_,by simp only[execOp,ho,Sem.run_bind,au,Result.andThen_ok,Sem.run_pure],h1.newBlk (vs:=az) (el:=e) (zcA _ hd) (by simp[Blk.refs]) (ml.blk (qt _ _ _) (heap_alloc_new w _)),.inl ⟨_,rfl, ?_,fun s hs => ?_⟩⟩
   ·refine .lsl (cs:=az) (el:=e) (qt _ _ _) (AF _) (fun _=>by simp) (heap_alloc_new w _) (by rw[ml.size,cK];simp) (by unfold maxLen;omega)
   ·rw[AV.refs,Ah] at hs;subst hs;simp[ASt.setH,upd]
  ·cases ha
 ·cases ha
def op_mksl (h:SRel S A0 O w0 A σ w st tm) {t e:TypeId} {i:TypeInfo} {z:Value} {n c:Operand} {n' c':AOpd} (ho:o.op=.makeSlice t n c) (hu:S.P.underlying t=some (.slice e)) (hi:S.P.info? e=some i) (hz:i.zero=some z)
  (bE:z.cells.size=i.size) (aT:0 < i.size) (bM:i.bytes<=zkh i.size) (aQ:∀ x∈z.cells.toList,zab x=true) (h1:qp S n=some n') (h2:qp S c=some c')
  (ha:aop (.mksl i.size z.cells.toList n' c') d st=some (v,aa)):wy S A0 O w0 w tm df o v aa:=by
 have g1:=h.ev (df:=df) h1;have g2:=h.ev (df:=df) h2;simp only[aop] at ha;split at ha
 ·rename_i m k hd db da;split at ha
  ·rename_i hc;obtain ⟨c1,c2,c3⟩:=hc;rw[db] at g1;rw[da] at g2;have e1:=g1.rel.v_inv;have e2:=g2.rel.v_inv;simp only[Option.some.injEq,Prod.mk.injEq] at ha;obtain ⟨rfl,rfl⟩:=ha;have hb:(i.bytes:Int) * k<=281474976710656:=by
    have h3:=(j7 (n:=k.toNat) (z:=i.size) (b:=i.bytes) (by omega) bM).2.2;have h4:((i.bytes * k.toNat:Nat):Int)=(i.bytes:Int) * k:=by rw[Int.natCast_mul,Cz (by omega)]
    omega
   have hk:k<=6000000000000:=by have:=(j7 (n:=k.toNat) (z:=i.size) (b:=i.bytes) (by omega) bM).1;omega
   have hr:=run_make (P:=S.P) w t e i z hu hi hz .i64 .i64 m k c1 c2 hb (by omega);have dA:(k.toNat:Int)=k:=Cz (by omega);have zr:∀ w',RowRel (VR0 S A w') i.size (List.replicate k.toNat (z.cells.toList.map AV.v)) (madeCells z.cells (k.toNat * i.size)):=(by intro w';have:=zhT (R:=VR0 S A w') (z:=z) (n:=k.toNat) (by omega) (fun x _=>.v x) (fun x hx=>zaT (aQ x hx));rw[bE] at this;unfold madeCells;rw[bE];exact this);have oQ:=zr (w.alloc (.cells (madeCells z.cells (k.toNat * i.size)) e));have aD:m.toNat * i.size<=(madeCells z.cells (k.toNat * i.size)).size:=by rw[size_madeCells];exact AB _ (by omega)
   have cq:wR S A (upd σ d (some w.heap.size)) (w.alloc (.cells (madeCells z.cells (k.toNat * i.size)) e)) d (.arr i.size (List.replicate m.toNat (z.cells.toList.map AV.v))):=by
    refine ⟨fun e he => ?_,.inr ⟨w.heap.size,_,e,qt _ _ _,heap_alloc_new w _,by simpa using aD,fun j hj=>oQ.one j (by simp at hj;omega),fun a b cc x ha hb=>oQ.rel a b cc x ?_ hb⟩⟩
    ·rw[List.mem_replicate] at he;rw[he.2];simp[bE]
    ·rw[List.getElem?_replicate] at ha ⊢;split at ha
     ·rw[if_pos (by omega)];exact ha
     ·cases ha
   refine ⟨.value (.slice (some ⟨w.heap.size,0,none⟩) m.toNat k.toNat),_,A,_,by simp only[execOp,ho,e1,e2,Sem.run_bind,hr,Result.andThen_ok,Sem.run_pure],h.newBlk (vs:=madeCells z.cells (k.toNat * i.size)) (el:=e) hd (by simp[Blk.refs]) cq,.inl ⟨_,rfl, ?_,fun s hs => ?_⟩⟩
   ·exact .lsl (qt _ _ _) (by omega) (fun _=>by simp) (heap_alloc_new w _) (by rw[size_madeCells];simp) (by unfold maxLen;omega)
   ·rw[AV.refs,Ah] at hs;subst hs;simp[ASt.setH,upd]
  ·cases ha
 ·cases ha
def op_store (h:SRel S A0 O w0 A σ w st tm) {t:TypeId} {a x:Operand} {a' x':AOpd} {z:Nat} (ho:o.op=.store t a x) (hs:wV S.P t=some z) (h1:qp S a=some a') (h2:qp S x=some x')
  (ha:aop (.store z a' x') d st=some (v,aa)):wy S A0 O w0 w tm df o v aa:=by
 have g1:=h.ev (df:=df) h1;have g2:=h.ev (df:=df) h2;obtain ⟨i,hi,rfl⟩:∃ i,S.P.info? t=some i∧i.size=z:=by simpa[wV] using hs
 simp only[aop] at ha;split at ha
 ·rename_i new aW;obtain ⟨c1,c2,c3,c4⟩:=g2.rel.cells aW;split at ha
  ·rename_i hnl
   have key:∀ b off (old:Array Value) el,Act.eval ⟨tm,df⟩ a=.pointer (some ⟨b,off,none⟩)->w.heap[b]? = some (.cells old el (0,0))->off+i.size<=old.size ->
     ∃ arr:Array Value,(execOp (Act.eval ⟨tm,df⟩) o).run S.P w=.ok .skip (w.setRow b arr)∧arr.size=old.size ∧
      ∀ j,arr.getD j undef=if off<=j∧j < off+i.size then (Act.eval ⟨tm,df⟩ x).cells.getD (j - off) undef else old.getD j undef:=by
    intro b off old el e hb hle;have aK:(Act.eval ⟨tm,df⟩ x).cells.toList.length=i.size:=by simp;omega
    have hr:=run_storeCells_at S.P b off el (Act.eval ⟨tm,df⟩ x).cells.toList 0 old w hb (by omega) c3;simp only[BC] at hr;refine ⟨(old.toList.take off++(Act.eval ⟨tm,df⟩ x).cells.toList++old.toList.drop (off+(Act.eval ⟨tm,df⟩ x).cells.toList.length)).toArray, ?_, ?_,fun j => ?_⟩
    ·have aD:(Act.eval ⟨tm,df⟩ x).cells.size=i.size:=by omega
     simp only[execOp,ho,Instr.storeAt,e,Instr.sureAddr,storeVar,Go.sizeOf,typeInfo,Sem.run_bind,Sem.run_pure,Result.andThen_ok,run_program,hi,aD,ne_eq,not_true_eq_false,if_false,hr]
    ·simp;omega
    ·simp only[An,List.getElem?_toArray,AG];by_cases j1:j < off
     ·rw[if_neg (by omega),Aw (by simp;omega),AZ j1];simp
     ·by_cases j2:j < off+i.size
      ·rw[if_pos (by omega),AM (by simp;omega),Aw (by simp;omega)];simp;congr 2;omega
      ·rw[if_neg (by omega),AM (by simp;omega),AM (by simp;omega),Bm];simp;congr 2;omega
   split at ha
   ·rename_i s off he;rw[he] at g1;split at ha
    ·rename_i cs hb;split at ha
     ·rename_i hle;simp only[Option.some.injEq,Prod.mk.injEq] at ha;obtain ⟨rfl,rfl⟩:=ha;obtain ⟨b,e,hσ⟩:=g1.rel.pv_inv;obtain ⟨b',old,el,k1,k2,k3,k4⟩:=h.hp _ _ hb;obtain rfl:b'=b:=Option.some.inj (k1.symm.trans hσ);obtain ⟨arr,r1,r2,r3⟩:=key b' off old el e k2 (by omega);have b9:∀ s',zcg σ σ w (w.setRow b' arr) s':=fun s'=>wC w b' old arr el k2 r2 s';have hA:∀ c,A c->(w.setRow b' arr).heap[c]? = w.heap[c]?:=fun c hc=>setRow_other w b' c arr (fun e=>(h.dom s b' hσ).2.2.1 (e ▸ hc));refine ⟨_,_,A,σ,r1,h.setBlk hσ k2 r2 (fun s' ae => ?_) ⟨b',arr,el,hσ,setRow_heap w b' old arr el _ k2,by rw[jD (by omega),r2];exact k3,fun j y hj => ?_⟩ (fun z es _ he=>by rw[hb] at he;cases he),.inr ⟨rfl,rfl⟩⟩
      ·rw[Blk.refs,ze] at ae;obtain ⟨y,hy,cw⟩:=ae;obtain ⟨j,hj⟩:=AJ.1 hy;rw[jK (by omega)] at hj;split at hj
       ·exact g2.dang s' ((c4 s').1 (ze.2 ⟨y,Ad hj,cw⟩))
       ·exact h.dangV s cs hb s' (ze.2 ⟨y,Ad hj,cw⟩)
      ·rw[jK (by omega)] at hj;rw[r3];split at hj
       ·rename_i hc;rw[if_pos (by omega)];exact (c2 _ _ hj).mono (fun _ h=>h) hA fun s' _=>b9 s'
       ·rename_i hc;rw[if_neg (by omega)];exact (k4 _ _ hj).mono (fun _ h=>h) hA fun s' _=>b9 s'
     ·cases ha
    ·cases ha
   ·rename_i s z0 k off he;rw[he] at g1;split at ha
    ·rename_i z' es hb;split at ha
     ·rename_i cs ak;split at ha
      ·rename_i hle;obtain ⟨rfl,hle,hnr⟩:=hle;simp only[Option.some.injEq,Prod.mk.injEq] at ha;obtain ⟨rfl,rfl⟩:=ha;obtain ⟨b,e,hσ⟩:=g1.rel.pe_inv;obtain ⟨k0,⟨k1,rfl⟩ | ⟨b',old,el,k1,k2,k3,k5,k4⟩⟩:=h.hp _ _ hb
       ·simp at ak
       ·obtain rfl:b'=b:=Option.some.inj (k1.symm.trans hσ);have hcz:cs.length=z0:=k0 _ (Ad ak);have hk:k < es.length:=(Ac.1 ak).1;have bd:(k+1) * z0<=es.length * z0:=AB _ hk;rw[A6] at bd;obtain ⟨arr,r1,r2,r3⟩:=key b' (k * z0+off) old el e k2 (by omega);have hA:∀ c,A c->(w.setRow b' arr).heap[c]? = w.heap[c]?:=fun c hc=>setRow_other w b' c arr (fun e=>(h.dom s b' hσ).2.2.1 (e ▸ hc));have nG:∀ (j:Nat) (y:AV),new[j]? = some y->y.refs=[]:=(by intro j y hj;exact Ay.2 fun s' ae=>by have:=ze.2 ⟨y,Ad hj,ae⟩;rw[hnr] at this;cases this);refine ⟨_,_,A,σ,r1,h.setBlk hσ k2 r2 (by simp[Blk.refs]) ⟨fun e' fU => ?_,.inr ⟨b',arr,el,hσ,setRow_heap w b' old arr el _ k2,by rw[r2];simpa using k3,fun j hj => ?_,fun ii ee c y aP hc => ?_⟩⟩ (fun z aX _ he=>by rw[hb] at he;cases he;exact ⟨_,rfl,by simp⟩),.inr ⟨rfl,rfl⟩⟩
        ·rcases CL fU with fU | rfl
         ·exact k0 _ fU
         ·rw[jD (by omega)];exact hcz
        ·rw[r3];by_cases hc:k * z0+off<=j∧j < k * z0+off+i.size
         ·rw[if_pos hc];apply c3;have:j - (k * z0+off) < (Act.eval ⟨tm,df⟩ x).cells.size:=by omega
          rw[Da];simp[Array.getD,this]
         ·rw[if_neg hc];exact k5 j (by simpa using hj)
        ·rw[r3];by_cases kK:k=ii
         ·subst kK;rw[Ci hk] at aP;cases aP;rw[jK (by omega)] at hc;split at hc
          ·rename_i kW;rw[if_pos (by omega),show k * z0+c - (k * z0+off)=c - off by omega];exact ((c2 _ _ hc).to0 (nG _ _ hc)).mono (fun _ h=>h) hA
          ·rename_i kW;rw[if_neg (by omega)];exact (k4 _ _ _ _ ak hc).mono (fun _ h=>h) hA
         ·have ah:=kK;rw[B7 kK] at aP;have nZ:=k0 _ (Ad aP);have aK:=(Ac.1 hc).1;rw[if_neg (fun hh=>ah (zhg (i:=ii) (j:=k) (c:=c) (z:=z0) (by omega) (by omega) (by omega)).symm)];exact (k4 _ _ _ _ aP hc).mono (fun _ h=>h) hA
      ·cases ha
     ·cases ha
    ·cases ha
   ·cases ha
  ·cases ha
 ·cases ha
end
end
section
open Go Go.RowKit
section
variable {S:Seat} {A0:Nat->Prop} {O:Hnd} {w0:World} {A:Nat->Prop} {σ:Nat->Option Nat} {w:World} {st aa:ASt} {tm:Array Value} {df:List Deferred} {o:Oper} {v:AV} {d:Nat}
def Src (w:World) (y:Value) (m:Nat) (news:List Value):Prop :=
 ∃ b c,y=.slice b m c∧((b=none∧m=0∧news=[])∨∃ ad,b=some ad∧∀ j u,news[j]? = some u->w.cell? (ad.add j)=some u)
def mo {P:Program} {size m:Nat} {y:Value} {news:List Value} (h:Src w y m news) (hl:news.length=m * size) (w':World) (hw:w'.heap=w.heap) :
  (Builtin.firstCells size m y).run P w'=.ok news.toArray w'∧∃ b c,y=.slice b m c:=by
 obtain ⟨b,c,rfl,⟨rfl,rfl,rfl⟩ | ⟨ad,rfl,h2⟩⟩:=h
 ·exact ⟨by simp[Builtin.firstCells],_,_,rfl⟩
 ·exact ⟨run_firstCells_some (P:=P) w' size m ad m c news hl (fun j u hj=>by have:=h2 j u hj;simpa[World.cell?,hw] using this),_,_,rfl⟩
def zgN {P:Program} (t ty e:TypeId) (i:TypeInfo) (ht:P.underlying t=some (.slice e)) (hi:P.info? e=some i)
  (g n cap:Nat) (cur:Array Value) (el:TypeId) (hg:w.heap[g]? = some (.cells cur el (0,0))) {y:Value} {m:Nat} {news:List Value} (hy:Src w y m news) (hl:news.length=m * i.size) (h1:∀ u∈news,u.oneCell'=true)
  (an:n+m<=cap) (bh:n * i.size+news.length<=cur.size) :
  (Builtin.append_ #[t,t] ty #[.slice (some ⟨g,0,none⟩) n cap,y]).run P w =
   .ok (.slice (some ⟨g,0,none⟩) (n+m) cap) (w.setRow g (cur.toList.take (n * i.size)++news++cur.toList.drop (n * i.size+news.length)).toArray):=by
 obtain ⟨hf,b,c,rfl⟩:=mo (P:=P) hy hl w rfl;have eD:=run_storeCells_at P g (n * i.size) el news 0 cur w hg (by simpa using bh) h1;simp only[BC] at eD;simp[Builtin.append_,run_underlying ht,Go.sizeOf,typeInfo,hi,Builtin.lenOf,an,hf,Addr.add_lit,eD]
def zcp {P:Program} (t ty e:TypeId) (i:TypeInfo) (ht:P.underlying t=some (.slice e)) (hi:P.info? e=some i) {y:Value} (hy:Src w y 0 []) :
  (Builtin.append_ #[t,t] ty #[.slice none 0 0,y]).run P w=.ok (.slice none 0 0) w:=by
 obtain ⟨hf,b,c,rfl⟩:=mo (P:=P) (size:=i.size) hy (by simp) w rfl;simp[Builtin.append_,run_underlying ht,Go.sizeOf,typeInfo,hi,Builtin.lenOf,hf]
def zcq {P:Program} (t ty e:TypeId) (i:TypeInfo) (z:Value) (ht:P.underlying t=some (.slice e)) (hi:P.info? e=some i) (hz:i.zero=some z)
  (a:Option Addr) (n cap:Nat) (olds:List Value) (eM:olds.length=n * i.size) (holds:(a=none∧olds=[])∨∃ ad,a=some ad∧∀ j v,olds[j]? = some v->w.cell? (ad.add j)=some v)
  {y:Value} {m:Nat} {news:List Value} (hy:Src w y m news) (hl:news.length=m * i.size) (hg:cap < n+m) (oK:((n+m:Nat):Int)<=9223372036854775807) (bh:Builtin.nextslicecap (n+m) cap * i.bytes<=281474976710656) :
  (Builtin.append_ #[t,t] ty #[.slice a n cap,y]).run P w =
   .ok (.slice (some ⟨w.heap.size,0,none⟩) (n+m) (grownCap w (n+m) cap e)) (w.drew.alloc (.cells (olds.toArray++news.toArray++Builtin.zeroCells z.cells (grownCap w (n+m) cap e - (n+m))) e)):=by
 have hn:¬ (n+m<=cap):=by omega
 have oJ:¬ (9223372036854775807 < ((n:Int)+(m:Int))):=by omega
 have oL:¬ (281474976710656 < Builtin.nextslicecap (n+m) cap * i.bytes):=by omega
 obtain ⟨hf,b,c,rfl⟩:=mo (P:=P) hy hl w.drew rfl;have hfo:(Builtin.firstCells i.size n (.slice a n cap)).run P w.drew=.ok olds.toArray w.drew:=by
  rcases holds with ⟨rfl,rfl⟩ | ⟨ad,rfl,h2⟩
  ·simp[Builtin.firstCells]
  ·exact run_firstCells_some (P:=P) w.drew i.size n ad n cap olds eM (by simpa using h2)
 simp[Builtin.append_,run_underlying ht,Go.sizeOf,typeInfo,zeroValue,hi,hz,Builtin.lenOf,hn,oJ,oL,Question.forced,hf,hfo,newRow,grownCap];congr 2;apply Array.ext';simp[AG]
def zis (h:SRel S A0 O w0 A σ w st tm) {z:Nat} {y:AV} {rv:Value} {ys:List (List AV)} (hv:VR S A σ w y rv) (he:yT st.hp z y=some ys) :
  ∃ news,Src w rv ys.length news∧news.length=ys.length * z∧(∀ e∈ys,e.length=z)∧(∀ u∈news,u.oneCell'=true)∧∀ (i:Nat) (e:List AV) (c:Nat) (x:AV),ys[i]? = some e->e[c]? = some x->VR0 S A w x (news.getD (i * z+c) undef):=by
 have mk:∀ (b off cap:Nat) (u:Nat->Value),rv=.slice (some ⟨b,off,none⟩) ys.length cap->(∀ e∈ys,e.length=z)->(∀ j,j < ys.length * z->w.cell? ⟨b,off+j,none⟩=some (u j))->(∀ j,j < ys.length * z->(u j).oneCell'=true) ->
   (∀ (i:Nat) (e:List AV) (c:Nat) (x:AV),ys[i]? = some e->e[c]? = some x->VR0 S A w x (u (i * z+c))) ->
   ∃ news,Src w rv ys.length news∧news.length=ys.length * z∧(∀ e∈ys,e.length=z)∧(∀ u∈news,u.oneCell'=true)∧∀ (i:Nat) (e:List AV) (c:Nat) (x:AV),ys[i]? = some e->e[c]? = some x->VR0 S A w x (news.getD (i * z+c) undef):=by
  intro b off cap u hr h0 h1 h2 h3;refine ⟨(List.range (ys.length * z)).map u,⟨_,_,hr,.inr ⟨_,rfl,fun j v hj => ?_⟩⟩,by simp,h0,fun v hv => ?_,fun i e c x hi hc => ?_⟩
  ·simp only[Au,Ag] at hj;obtain ⟨k,hk,rfl⟩:=hj;obtain ⟨fS,cx⟩:=Ac.1 hk;simp at fS cx;subst cx;rw[Addr.add_lit];exact h1 j fS
  ·rw[Al] at hv;obtain ⟨k,hk,rfl⟩:=hv;exact h2 k (by simpa using hk)
  ·have al:i * z+c < ys.length * z:=zhi (Ac.1 hi).1 (by have:=(Ac.1 hc).1;have:=h0 e (Ad hi);omega);have:((List.range (ys.length * z)).map u).getD (i * z+c) undef=u (i * z+c):=by simp[List.getD,al]
   rw[this];exact h3 i e c x hi hc
 unfold yT at he;split at he
 ·cases he;rw[hv.v_inv];exact ⟨[],⟨_,_,rfl,.inl ⟨rfl,rfl,rfl⟩⟩,by simp,by simp,by simp,by simp⟩
 ·cases he;rw[hv.v_inv];exact ⟨[],⟨_,_,rfl,.inr ⟨_,rfl,by simp⟩⟩,by simp,by simp,by simp,by simp⟩
 ·rename_i z' es;split at he
  ·rename_i hz;subst hz;cases he;rcases hv.sl_inv with ⟨rfl,hr⟩ | ⟨b,o',cap,u,hr,k1,k2,k3,k4,k5,k6⟩ | ⟨rfl,a,cap,hr⟩
   ·rw[hr];exact ⟨[],⟨_,_,rfl,.inl ⟨rfl,rfl,rfl⟩⟩,by simp,by simp,by simp,by simp⟩
   ·exact mk b o' cap u hr k3 k4 k5 k6
   ·rw[hr];exact ⟨[],⟨_,_,rfl,.inr ⟨_,rfl,by simp⟩⟩,by simp,by simp,by simp,by simp⟩
  ·cases he
 ·rename_i s z' off len;split at he
  ·rename_i eS es hb;split at he
   ·rename_i hc;cases he;obtain ⟨bU,cN,hle⟩:=hc;subst bU;subst cN;have hlen:((es.drop off).take len).length=len:=by simp;omega
    obtain ⟨k0,iM⟩:=h.hp _ _ hb;have h0:∀ e∈(es.drop off).take len,e.length=eS:=fun e he=>k0 e (Bh (Bg he));rcases hv.lsl_inv with ⟨rfl,rfl,_,hr⟩ | ⟨b,o',cap,cs,el,hr,k1,k2,k3,k4,k5,k6⟩
    ·rw[hr];exact ⟨[],⟨_,_,rfl,.inl ⟨rfl,by simp,rfl⟩⟩,by simp,by simp,by simp,by simp⟩
    ·rcases iM with ⟨j1,_⟩ | ⟨b',vs,bN,j1,j2,j3,j5,j4⟩
     ·rw[j1] at k1;cases k1
     ·obtain rfl:b'=b:=Option.some.inj (j1.symm.trans k1);by_cases e7:len=0
      ·subst e7;exact mk b' o' cap (fun _=>undef) (by rw[hlen];exact hr) h0 (by simp) (by simp) (by simp)
      ·have ho:=k3 (.inl (by omega));subst ho;have aD:len * eS+off * eS<=es.length * eS:=by rw[← A6];exact AB _ (by omega)
       refine mk b' (off * eS) cap (fun j=>vs.getD (off * eS+j) undef) (by rw[hlen];exact hr) h0 (fun j hj => ?_) (fun j hj => ?_) (fun i e c x hi hc => ?_)
       ·rw[hlen] at hj;have:off * eS+j < vs.size:=by omega
        simp[World.cell?,j2,this,Array.getD]
       ·rw[hlen] at hj;exact j5 _ (by omega)
       ·have al:i < len:=by have:=(Ac.1 hi).1;omega
        rw[AZ al,Bm] at hi;have:=j4 _ _ _ _ hi hc
        rwa [A6,AY] at this
   ·cases he
  ·cases he
 ·cases he
def zcb {R:AV->Value->Prop} {z:Nat} {es ys:List (List AV)} {olds news rest:List Value} (h1:∀ e∈es,e.length=z) (h2:∀ e∈ys,e.length=z) (fQ:olds.length=es.length * z) (cp:news.length=ys.length * z)
  (r1:∀ (i:Nat) (e:List AV) (c:Nat) (x:AV),es[i]? = some e->e[c]? = some x->R x (olds.getD (i * z+c) undef)) (r2:∀ (i:Nat) (e:List AV) (c:Nat) (x:AV),ys[i]? = some e->e[c]? = some x->R x (news.getD (i * z+c) undef))
  (i:Nat) (e:List AV) (c:Nat) (x:AV) (hi:(es++ys)[i]? = some e) (hc:e[c]? = some x):R x ((olds++news++rest).getD (i * z+c) undef):=by
 have aK:=(Ac.1 hc).1;by_cases al:i < es.length
 ·rw[Aw al] at hi;have nZ:=h1 e (Ad hi);have hb:i * z+c < olds.length:=by rw[fQ];exact zhi al (by omega)
  have:=r1 i e c x hi hc;simpa[List.getD,AG,Aw hb] using this
 ·rw[AM (by omega)] at hi;have nZ:=h2 e (Ad hi);have gL:=(Ac.1 hi).1;have hb:(i - es.length) * z+c < news.length:=by rw[cp];exact zhi gL (by omega)
  have heq:i * z+c=olds.length+((i - es.length) * z+c):=(by rw[fQ,← AY,← A6];congr 2;omega);have:=r2 _ e c x hi hc;rw[heq,AG,AL,AM (by omega),Aw (by omega)];simpa[List.getD] using this
def zY (l:List Value) (j:Nat):l.toArray.getD j undef=l.getD j undef:=by simp[An,List.getD]
def zcc {es_len ys_len z:Nat} {olds news rest:List Value} (fQ:olds.length=es_len * z) (cp:news.length=ys_len * z) (h1:∀ u∈olds,u.oneCell'=true) (h2:∀ u∈news,u.oneCell'=true) (j:Nat) (hj:j < (es_len+ys_len) * z) :
  ((olds++news++rest).getD j undef).oneCell'=true:=by
 have hb:j < (olds++news).length:=by simp[fQ,cp,← A6];exact hj
 have:(olds++news++rest).getD j undef=(olds++news)[j]:=by rw[AL,Aw hb,Aa hb];rfl
 rw[this];rcases Aj.1 (Az hb) with h | h
 ·exact h1 _ h
 ·exact h2 _ h
def SRel.dropS (h:SRel S A0 O w0 A σ w st tm) {s:Nat} (dC:zbI s=false):SRel S A0 O w0 A (fun k=>if k=s then none else σ k) w (st.drop s) tm:=by
 show SRel S A0 O w0 A (fun k=>if k=s then none else σ k) w ((st.scrub s).setH s none) tm;have hq:=h.scrub s;have nr:∀ k,s ∉ ((st.scrub s).fr k).refs:=fun k=>zeS s (st.fr k);have ks:∀ s',s'≠s->zcg σ (fun k=>if k=s then none else σ k) w w s':=fun s' ah=>⟨by simp[ah],fun b cs el _ hb=>⟨cs,hb,rfl⟩⟩;have nrB:∀ s' cs,(st.scrub s).hp s'=some (.var cs)->s ∉ AV.refsL cs:=by
  intro s' cs ak hm;simp only[ASt.scrub,Ag] at ak;obtain ⟨b0,_,he⟩:=ak;cases b0 with
  | var gb =>simp only[zaK,Blk.var.injEq] at he;subst he;rw[ze] at hm;obtain ⟨xx,hx,hm⟩:=hm;rw[Al] at hx;obtain ⟨yy,_,rfl⟩:=hx;exact zeS s yy hm
  | arr=>simp[zaK] at he
 refine ⟨fun k=>(hq.fr k).mono (fun _ h=>h) (fun _ _=>rfl) fun s' ae=>ks s' fun e=>nr k (e ▸ ae),fun s' blk aq => ?_,fun k s' ae => ?_,fun s' cs ak dJ bm => ?_,fun s' b ae => ?_,fun a1 a2 b b1 b2 => ?_,hq.Alt,hq.Asub,hq.keep,hq.kp.of fun s' ae hn => ?_,hq.Olt⟩
 ·simp only[ASt.setH,upd] at aq;split at aq
  ·cases aq
  ·rename_i ah;refine (hq.hp s' blk aq).mono (fun _ h=>h) (fun _ _=>rfl) (by simp[ah]) (fun _ _=>rfl) fun dJ bm=>ks dJ fun e => ?_;subst e;cases blk with
   | var cs=>exact nrB s' cs aq (by rw[Blk.refs] at bm;exact bm)
   | arr=>simp[Blk.refs] at bm
 ·simp only[ASt.setH,upd];split
  ·rename_i e;subst e;exact absurd ae (nr k)
  ·exact hq.dang k s' ae
 ·simp only[ASt.setH,upd] at ak ⊢;split at ak
  ·cases ak
  ·split
   ·rename_i e;subst e;exact absurd bm (nrB s' cs ak)
   ·exact hq.dangV s' cs ak dJ bm
 ·split at ae
  ·cases ae
  ·rename_i ah;obtain ⟨d1,d2⟩:=hq.dom s' b ae;exact ⟨by simp[ASt.setH,upd,ah];exact d1,d2⟩
 ·split at b1
  ·cases b1
  ·split at b2
   ·cases b2
   ·exact hq.inj a1 a2 b b1 b2
 ·have ah:s'≠s:=fun e=>by rw[e,dC] at ae;cases ae
  exact ⟨ks s' ah,fun z es he=>⟨es,by simp only[ASt.setH,upd,if_neg ah];exact he,rfl⟩⟩
def op_app (h:SRel S A0 O w0 A σ w st tm) {t e:TypeId} {i:TypeInfo} {z:Value} {x y:Operand} {x' y':AOpd} (ho:o.op=.call { callee:=.builtin .append,args:=#[x,y],argTypes:=#[t,t] }) (hu:S.P.underlying t=some (.slice e)) (hi:S.P.info? e=some i) (hz:i.zero=some z)
  (bE:z.cells.size=i.size) (bM:i.bytes<=zkh i.size) (h1:qp S x=some x') (h2:qp S y=some y') (ha:aop (.app i.size x' y') d st=some (v,aa)):wy S A0 O w0 w tm df o v aa:=by
 have g1:=h.ev (df:=df) h1;have g2:=h.ev (df:=df) h2;have au:(execOp (Act.eval ⟨tm,df⟩) o).run S.P w=((Builtin.append_ #[t,t] o.type #[Act.eval ⟨tm,df⟩ x,Act.eval ⟨tm,df⟩ y]).run S.P w).andThen fun a w'=>.ok (.value a) w':=(by simp[execOp,ho,resolve,invoke,builtin]);have fits:∀ n cap,n<=zbO i.size->cap < n->Builtin.nextslicecap n cap * i.bytes<=281474976710656:=fun n cap hn hc=>growslice_fits_wide hc (j7 hn bM).2.1;simp only[aop] at ha;split at ha
 ·rename_i ys cw;obtain ⟨news,s1,s2,s3,s4,s5⟩:=zis h g2.rel cw;split at ha
  ·rename_i he;rw[he] at g1;have e1:=g1.rel.v_inv;rw[e1] at au;split at ha
   ·rename_i an;split at ha
    ·rename_i hd;simp only[Option.some.injEq,Prod.mk.injEq] at ha;obtain ⟨rfl,rfl⟩:=ha;by_cases hm:ys.length=0
     ·have ko:ys=[]:=Bu hm;subst ko;obtain rfl:news=[]:=Bu (by simpa using s2);rw[zcp t o.type e i hu hi s1] at au;have hσd:σ d=none:=by
       cases hq:σ d with
       | none=>rfl
       | some b=>exact absurd hd (h.dom d b hq).1
      refine ⟨_,w,A,σ,au,⟨h.fr,fun s blk hb => ?_,fun k s hs => ?_,fun s cs hs s' ae => ?_,fun s b hs => ?_,h.inj,h.Alt,h.Asub,h.keep,h.kp.same (fun _ _=>⟨rfl,fun _ cs _ _ hb=>⟨cs,hb,rfl⟩⟩) (fun s z es he _=>by
       have ah:s≠d:=fun e=>by rw[e,hd] at he;cases he
       simp only[ASt.setH,upd,if_neg ah];exact he),h.Olt⟩,.inl ⟨_,rfl,.lslnil hσd,fun s hs => ?_⟩⟩
      ·simp only[ASt.setH,upd] at hb;split at hb
       ·rename_i e;subst e;cases hb;exact ⟨by simp,.inl ⟨hσd,rfl⟩⟩
       ·exact h.hp s blk hb
      ·simp only[ASt.setH,upd];split
       ·simp
       ·exact h.dang k s hs
      ·simp only[ASt.setH,upd] at hs ⊢;split
       ·simp
       ·split at hs
        ·cases hs
        ·exact h.dangV s cs hs s' ae
      ·obtain ⟨k1,k2⟩:=h.dom s b hs;refine ⟨?_,k2⟩;simp only[ASt.setH,upd];split
       ·simp
       ·exact k1
      ·rw[AV.refs,Ah] at hs;subst hs;simp[ASt.setH,upd]
     ·have hr:=zcq (P:=S.P) t o.type e i z hu hi hz none 0 0 [] (by simp) (.inl ⟨rfl,rfl⟩) s1 s2 (by omega) (by have:=(j7 an bM).1;omega) (by rw[AW];exact fits _ _ an (by omega));rw[hr] at au;simp only[AW] at au;have hdr:=h.drew;have ba:=grownCap_ge w ys.length 0 e;have aH:=grownCap_le_maxLen w ys.length 0 e (by have:=(j7 an bM).1;unfold maxLen;omega);refine ⟨_,_,A,_,au,hdr.newBlk (el:=e) hd (by simp[Blk.refs]) ⟨s3,.inr ⟨_,_,e,qt _ _ _,heap_alloc_new w.drew _, ?_,fun j hj => ?_,fun ii ee c xx aP hc => ?_⟩⟩,.inl ⟨_,rfl, ?_,fun s hs => ?_⟩⟩
      ·simp only[Ck,Bj,BB,size_zeroCells,bE,s2];omega
      ·have:=zcc (es_len:=0) (ys_len:=ys.length) (z:=i.size) (olds:=[]) (news:=news) (rest:=(Builtin.zeroCells z.cells (grownCap w ys.length 0 e - ys.length)).toList) (by simp) s2 (by simp) s4 j (by simpa using hj);have e2:([].toArray++news.toArray++Builtin.zeroCells z.cells (grownCap w ys.length 0 e - ys.length))=([]++news++(Builtin.zeroCells z.cells (grownCap w ys.length 0 e - ys.length)).toList).toArray:=by apply Array.ext';simp
       rw[e2,zY];exact this
      ·have:=zcb (R:=VR0 S A w) (es:=[]) (olds:=[]) (rest:=(Builtin.zeroCells z.cells (grownCap w ys.length 0 e - ys.length)).toList) (by simp) s3 (by simp) s2 (by simp) s5 ii ee c xx (by simpa using aP) hc;have e2:([].toArray++news.toArray++Builtin.zeroCells z.cells (grownCap w ys.length 0 e - ys.length))=([]++news++(Builtin.zeroCells z.cells (grownCap w ys.length 0 e - ys.length)).toList).toArray:=by apply Array.ext';simp
       rw[e2,zY];exact (VR0.heap (w:=w) (w':=w.drew) rfl this).mono (fun _ h=>h) fun b hb=>heap_alloc_old w.drew _ b (h.Alt b hb)
      ·refine .lsl (qt _ _ _) ba (fun _=>by simp) (heap_alloc_new w.drew _) ?_ aH;simp only[Ck,Bj,BB,size_zeroCells,bE,s2,AW,← A6];exact AB _ (by omega)
      ·rw[AV.refs,Ah] at hs;subst hs;simp[ASt.setH,upd]
    ·cases ha
   ·cases ha
  ·rename_i s z' n he;rw[he] at g1;split at ha
   ·rename_i eS es hb;split at ha
    ·rename_i hc;obtain ⟨bQ,rfl,rfl,rfl,an⟩:=hc;simp only[Option.some.injEq,Prod.mk.injEq] at ha;obtain ⟨rfl,rfl⟩:=ha;obtain ⟨k0,iM⟩:=h.hp _ _ hb;have hsc:=h.scrub s;have ld:(st.scrub s).hp s=some (.arr i.size es):=by simp[ASt.scrub,hb,zaK]
     have dA:∀ e∈es++ys,e.length=i.size:=fun e he=>(Aj.1 he).elim (k0 e) (s3 e);have hlen:(es++ys).length=es.length+ys.length:=Ax
     -- a row in new memory,under the old name
     have grow:∀ (a:Option Addr) (cap:Nat) (olds:List Value),Act.eval ⟨tm,df⟩ x=.slice a es.length cap->olds.length=es.length * i.size->((a=none∧olds=[])∨∃ ad,a=some ad∧∀ j v,olds[j]? = some v->w.cell? (ad.add j)=some v) ->
       (∀ u∈olds,u.oneCell'=true)->(∀ (ii:Nat) (e:List AV) (c:Nat) (x:AV),es[ii]? = some e->e[c]? = some x->VR0 S A w x (olds.getD (ii * i.size+c) undef))->cap < es.length+ys.length ->
       wy S A0 O w0 w tm df o (.lsl s i.size 0 (es.length+ys.length)) ((st.scrub s).setH s (some (.arr i.size (es++ys)))):=by
      intro a cap olds e1 l1 l2 l3 l4 l5;have hr:=zcq (P:=S.P) t o.type e i z hu hi hz a es.length cap olds l1 l2 s1 s2 l5 (by have:=(j7 an bM).1;omega) (fits _ _ an l5);rw[e1,hr] at au;simp only[Result.andThen_ok] at au;have ba:=grownCap_ge w (es.length+ys.length) cap e;have aH:=grownCap_le_maxLen w (es.length+ys.length) cap e (by have:=(j7 an bM).1;unfold maxLen;omega);generalize hzc:Builtin.zeroCells z.cells (grownCap w (es.length+ys.length) cap e - (es.length+ys.length))=zc at au;have mW:zc.size=(grownCap w (es.length+ys.length) cap e - (es.length+ys.length)) * i.size:=by rw[← hzc,size_zeroCells,bE]
      have e2:(olds.toArray++news.toArray++zc)=(olds++news++zc.toList).toArray:=by apply Array.ext';simp
      rw[e2] at au
      -- the state without the row
      have gJ:SRel S A0 O w0 A (fun k=>if k=s then none else σ k) w.drew ((st.scrub s).setH s none) tm:=h.drew.dropS bQ;have heq:((st.scrub s).setH s none).setH s (some (.arr i.size (es++ys)))=(st.scrub s).setH s (some (.arr i.size (es++ys))):=by
       simp only[ASt.setH];congr 1;funext k;simp only[upd]
       split<;>rfl
      rw[← heq];refine ⟨_,_,A,_,au,gJ.newBlk (el:=e) (by simp[ASt.setH,upd]) (by simp[Blk.refs]) ⟨dA,.inr ⟨_,_,e,qt _ _ _,heap_alloc_new w.drew _, ?_,fun j hj => ?_,fun ii ee c xx aP hc => ?_⟩⟩,.inl ⟨_,rfl, ?_,fun s' ae => ?_⟩⟩
      ·simp[l1,s2,A6]
      ·rw[zY];exact zcc l1 s2 l3 s4 j (by rw[hlen] at hj;exact hj)
      ·rw[zY];exact (VR0.heap (w:=w) (w':=w.drew) rfl (zcb k0 s3 l1 s2 l4 s5 ii ee c xx aP hc)).mono (fun _ h=>h) fun b hb=>heap_alloc_old w.drew _ b (h.Alt b hb)
      ·refine .lsl (qt _ _ _) ba (fun _=>by simp) (heap_alloc_new w.drew _) ?_ aH;simp only[Bj,Ax,Bi,l1,s2,mW,AW,← A6];exact AB _ (by omega)
      ·rw[AV.refs,Ah] at ae;subst ae;simp[ASt.setH,upd]
     rcases g1.rel.lsl_inv with ⟨_,hn0,kσ,e1⟩ | ⟨b,o',cap,cs,el,e1,j1,j2,j3,j4,j5,j6⟩
     ·have cK:es=[]:=Bu hn0;subst cK;by_cases hm:ys.length=0
      ·have ko:ys=[]:=Bu hm;subst ko;obtain rfl:news=[]:=Bu (by simpa using s2);rw[e1,zcp t o.type e i hu hi s1] at au;have heq:(st.scrub s).setH s (some (.arr i.size ([]++[])))=st.scrub s:=by
        simp only[ASt.setH];cases hq:st.scrub s with
        | mk f p =>
         simp only;congr 1;funext k;simp only[upd];split
         ·rename_i e;subst e;rw[hq] at ld;exact ld.symm
         ·rfl
       rw[heq];exact ⟨_,w,A,σ,au,hsc,.inl ⟨_,rfl,.lslnil kσ,fun s' ae=>by rw[AV.refs,Ah] at ae;subst ae;rw[ld];simp⟩⟩
      ·exact grow none 0 [] e1 (by simp) (.inl ⟨rfl,rfl⟩) (by simp) (by simp) (by simp;omega)
     ·rcases iM with ⟨q1,_⟩ | ⟨b',vs,bN,q1,q2,q3,q5,q4⟩
      ·rw[q1] at j1;cases j1
      ·obtain rfl:b'=b:=Option.some.inj (q1.symm.trans j1);rw[q2] at j4;simp only[Option.some.injEq,Obj.cells.injEq] at j4;obtain ⟨e3,e4,_⟩:=j4;subst e3;subst e4;have fO:=j3 (.inr rfl);simp only[Nat.zero_mul] at fO;subst fO;simp only[AW] at j5;have fN:(vs.toList.take (es.length * i.size)).length=es.length * i.size:=by simp;omega
       have bf:∀ j,j < es.length * i.size->(vs.toList.take (es.length * i.size)).getD j undef=vs.getD j undef:=(by intro j hj;simp[List.getD,An,AZ hj]);have aV:∀ u∈vs.toList.take (es.length * i.size),u.oneCell'=true:=(by intro u hu;obtain ⟨j,hj⟩:=AJ.1 hu;have e8:=(Ac.1 hj).1;rw[fN] at e8;have e3:=bf j e8;simp only[List.getD,hj,Ba] at e3;rw[e3];exact q5 j e8);have hrel:∀ (ii:Nat) (e:List AV) (c:Nat) (x:AV),es[ii]? = some e->e[c]? = some x->VR0 S A w x ((vs.toList.take (es.length * i.size)).getD (ii * i.size+c) undef):=(by intro ii ee c xx aP hc;rw[bf _ (zhi (Ac.1 aP).1 (by have:=(Ac.1 hc).1;have:=k0 ee (Ad aP);omega))];exact q4 _ _ _ _ aP hc);by_cases hr:es.length+ys.length<=cap
       ·have bh:es.length * i.size+news.length<=vs.size:=(by rw[s2,← A6];exact AO (AB _ hr) j5);have hrr:=zgN (P:=S.P) t o.type e i hu hi b' es.length cap vs bN q2 s1 s2 s4 hr bh;rw[e1,hrr] at au;simp only[Result.andThen_ok] at au;generalize aW:(vs.toList.take (es.length * i.size)++news++vs.toList.drop (es.length * i.size+news.length))=nw at au;have aD:nw.toArray.size=vs.size:=by rw[← aW];simp;omega
        have hA:∀ c,A c->(w.setRow b' nw.toArray).heap[c]? = w.heap[c]?:=fun c hc=>setRow_other w b' c _ (fun e=>(h.dom s b' q1).2.2.1 (e ▸ hc));refine ⟨_,_,A,σ,au,hsc.setBlk q1 q2 aD (by simp[Blk.refs]) ⟨dA,.inr ⟨b',_,bN,q1,setRow_heap w b' vs _ bN _ q2, ?_,fun j hj => ?_,fun ii ee c xx aP hc => ?_⟩⟩ (fun z es _ _=>by simp_all),.inl ⟨_,rfl, ?_,fun s' ae => ?_⟩⟩
        ·rw[aD,hlen];exact AO (AB _ hr) j5
        ·rw[zY,← aW];exact zcc fN s2 aV s4 j (by rw[hlen] at hj;exact hj)
        ·rw[zY];have hx:=(zcb (rest:=vs.toList.drop (es.length * i.size+news.length)) k0 s3 fN s2 hrel s5 ii ee c xx aP hc).mono (w':=w.setRow b' nw.toArray) (fun _ h=>h) hA;rw[aW] at hx;exact hx
        ·exact .lsl q1 hr (fun _=>by simp) (setRow_heap w b' vs _ bN _ q2) (by rw[aD];simpa using j5) j6
        ·rw[AV.refs,Ah] at ae;subst ae;simp[ASt.setH,upd]
       ·exact grow _ cap _ e1 fN (.inr ⟨_,rfl,fun j v hj=>by
         have e8:=(Ac.1 hj).1;rw[fN] at e8;rw[AZ e8] at hj;rw[Addr.add_lit,AW,cell_of_row w b' j vs bN _ q2];simpa using hj⟩) aV hrel (by omega)
    ·cases ha
   ·cases ha
  ·cases ha
 ·cases ha
end
end
section
open Go Go.RowKit
section
variable {S:Seat} {A0:Nat->Prop} {O:Hnd} {w0:World} {A:Nat->Prop} {σ:Nat->Option Nat} {w:World} {st aa:ASt} {tm:Array Value} {df:List Deferred} {o:Oper} {v:AV} {d:Nat}
def SRel.grow (h:SRel S A0 O w0 A σ w st tm) {w':World} {A':Nat->Prop} (hk:KeepO (fun _=>False) w w') (h1:∀ b,A b->A' b) (h2:∀ b,A' b->A b∨w.heap.size<=b) (h3:∀ b,A' b->b < w'.heap.size):SRel S A0 O w0 A' σ w' st tm:=by
 have hA:∀ b,A b->w'.heap[b]? = w.heap[b]?:=fun b hb=>hk.block b (h.Alt b hb) (fun e=>e);have hs:∀ s,zcg σ σ w w' s:=fun s=>⟨rfl,fun b cs el hb hc=>⟨cs,by rw[hk.block b (h.dom s b hb).2.1 (fun e=>e)];exact hc,rfl⟩⟩;refine ⟨fun k=>(h.fr k).mono h1 hA fun s _=>hs s,fun s blk hb=>(h.hp s blk hb).mono h1 hA rfl (fun b hb=>hk.block b (h.dom s b hb).2.1 (fun e=>e)) fun s' _=>hs s',h.dang,h.dangV,fun s b hb => ?_,h.inj,h3,fun b hb => ?_, ?_, ?_,h.Olt⟩
 ·obtain ⟨k1,k2,k3,k4⟩:=h.dom s b hb;exact ⟨k1,AQ k2 hk.size,fun aq=>(h2 b aq).elim k3 (fun e=>by omega),k4⟩
 ·rcases h2 b hb with hb | hb
  ·exact h.Asub b hb
  ·exact .inr (.inl (AO h.keep.size hb))
 ·exact h.keep.trans ⟨hk.os,hk.tape,hk.output,hk.size,fun k ay _=>hk.block k ay (fun e=>e)⟩
 ·exact h.kp.same (fun s _=>hs s) fun _ _ _ h _=>h
def op_cvs (h:SRel S A0 O w0 A σ w st tm) {s t e:TypeId} {i:TypeInfo} {x:Operand} {x':AOpd} (ho:o.op=.convert s t x) (hs:S.P.underlying s=some .string) (ht:S.P.underlying t=some (.slice e)) (he:S.P.underlying e=some (.int .u8)) (h1:qp S x=some x')
  (ha:aop (.cvs x') d st=some (v,aa)):wy S A0 O w0 w tm df o v aa:=by
 have g1:=h.ev (df:=df) h1;simp only[aop] at ha;split at ha
 ·rename_i b hb;rw[hb] at g1;have e1:=g1.rel.v_inv;simp only[Option.some.injEq,Prod.mk.injEq] at ha;obtain ⟨rfl,rfl⟩:=ha;generalize ak:(b.data.map (fun c=>Value.int .u8 c.toNat)++Array.replicate (grownCap w b.size 0 e - b.size) (.int .u8 0))=cs;have au:(execOp (Act.eval ⟨tm,df⟩) o).run S.P w=.ok (.value (.slice (some ⟨w.heap.size,0,none⟩) b.size (grownCap w b.size 0 e))) ((w.drew.alloc (.cells cs e)).freeze ⟨w.heap.size,cs.size,none⟩ 1):=by
   have h0:(w.drew.alloc (.cells cs e)).heap[w.heap.size]? = some (.cells cs e (0,0)):=heap_alloc_new w.drew _;have hsh:(w.drew.alloc (.cells cs e)).shape? w.heap.size=some (e,cs.size):=by simp only[World.shape?,h0]
   have n9:(b.data.map (fun c=>Value.int .u8 c.toNat)++Array.replicate ((Question.appendCap b.size 0 e).cut (w.tape w.drawn (Question.appendCap b.size 0 e)) - b.size) (.int .u8 0))=cs:=ak;have hcv:(Conv.stringToBytes e b).run S.P w=.ok (.slice (some ⟨w.heap.size,0,none⟩) b.size (grownCap w b.size 0 e)) ((w.drew.alloc (.cells cs e)).freeze ⟨w.heap.size,cs.size,none⟩ 1):=(by simp[Conv.stringToBytes,Question.forced,newRow,markStringish];rw[n9,hsh];simp[grownCap]);simp[execOp,ho,e1,convert,run_underlying hs,run_underlying ht,run_underlying he,hcv]
  have hlen:b.size<=cs.size:=by rw[← ak];simp
  have aW:((w.drew.alloc (.cells cs e)).freeze ⟨w.heap.size,cs.size,none⟩ 1).heap[w.heap.size]? = some (.cells cs e (cs.size,cs.size+1)):=by
   have h0:(w.drew.alloc (.cells cs e)).heap[w.heap.size]? = some (.cells cs e (0,0)):=heap_alloc_new w.drew _;have al:w.heap.size < (w.drew.alloc (.cells cs e)).heap.size:=by simp
   simp only[World.freeze];rw[if_neg (by omega)];simp only[Array.getElem?_modify,if_true,h0,AN];simp
  have hold:∀ k,k < w.heap.size->((w.drew.alloc (.cells cs e)).freeze ⟨w.heap.size,cs.size,none⟩ 1).heap[k]? = w.heap[k]?:=(by intro k hk;simp only[World.freeze];rw[if_neg (by omega)];simp only[Array.getElem?_modify];rw[if_neg (by omega)];exact heap_alloc_old w.drew _ k hk);have bj:((w.drew.alloc (.cells cs e)).freeze ⟨w.heap.size,cs.size,none⟩ 1).heap.size=w.heap.size+1:=(by simp[World.freeze]);generalize hw':(w.drew.alloc (.cells cs e)).freeze ⟨w.heap.size,cs.size,none⟩ 1=w' at *;have eO:KeepO (fun _=>False) w w':=(by refine ⟨?_, ?_, ?_,by omega,fun k hk _=>hold k hk⟩<;>(subst hw';simp only[World.freeze];rw[if_neg (by omega)];rfl))
  have kM:=h.grow (A':=fun c=>A c∨c=w.heap.size) eO (fun _ h=>.inl h) (fun c hc=>hc.imp id (fun e=>by omega)) (fun c hc=>hc.elim (fun hc=>by have:=h.Alt c hc;omega) (fun e=>by omega));refine ⟨_,w',_,σ,au,kM,.inl ⟨_,rfl,.of0 ?_,by simp[AV.refs]⟩⟩;have hl:(b.data.toList.map fun c=>[AV.v (.int .u8 c.toNat)]).length=b.size:=by simp
  have bf:∀ j,j < b.size->cs.getD j undef=.int .u8 (b.data.toList.getD j 0).toNat:=(by intro j hj;have bo:j < b.data.size:=hj;rw[← ak,An,B9 (by simpa using bo),Array.getElem?_map,AL,Bp,Be bo];rfl)
  have:=VR0.sl (S:=S) (A:=fun c=>A c∨c=w.heap.size) (w:=w') (z:=1) (es:=b.data.toList.map fun c=>[AV.v (.int .u8 c.toNat)]) (b:=w.heap.size) (o:=0) (cap:=grownCap w b.size 0 e) (u:=fun j=>cs.getD j undef) (.inr rfl)
   (by rw[hl];exact grownCap_ge w _ _ _) (by intro e he;rw[Al] at he;obtain ⟨c,_,rfl⟩:=he;rfl)
   (fun j hj=>by
    rw[hl,Ct] at hj;have:j < cs.size:=by omega
    simp[World.cell?,aW,Array.getD,this])
   (fun j hj=>by rw[hl,Ct] at hj;simp only[bf j hj];rfl)
   (fun ii ee c xx hi hc=>by
    have mb:ii < b.size:=by rw[← hl];exact (Ac.1 hi).1
    simp only[Au,Ag] at hi;obtain ⟨y,hy,rfl⟩:=hi;cases c with
    | zero =>simp at hc;subst hc;simp only[Ct,BC,bf ii mb,List.getD,hy,Ba];exact .v _
    | succ c=>simp at hc)
  rwa [hl] at this
 ·cases ha
def zjQ {x y:AV} (h:qj (fun _=>none) x=some y):y=x∧x.refs=[]:=by
 cases x with
 | pe=>simp[qj] at h
 | lsl=>simp[qj] at h
 | own=>simp[qj] at h
 | _ =>
  simp only[qj] at h;split at h
  ·rename_i e;exact ⟨(Option.some.inj h).symm,BZ.1 e⟩
  ·cases h
def op_lit (h:SRel S A0 O w0 A σ w st tm) {t e:TypeId} {i:TypeInfo} {z:Value} {len:Nat} {ps:Array (Nat×Operand)} {l:List (Nat×AOpd)} (ho:o.op=.buildSlice t len ps) (hu:S.P.underlying t=some (.slice e)) (hi:S.P.info? e=some i) (hz:i.zero=some z)
  (bE:z.cells.size=i.size) (aT:0 < i.size) (bM:i.size<=128) (aQ:∀ x∈z.cells.toList,zab x=true) (hl:zd (fun (p:Nat×Operand)=>if p.1 < len then (qp S p.2).map fun x=>(p.1,x) else none) ps.toList=some l)
  (hlen:len<=4096) (ha:aop (.lit i.size z.cells.toList len l) d st=some (v,aa)):wy S A0 O w0 w tm df o v aa:=by
 simp only[aop] at ha;split at ha
 ·rename_i pcs eI;simp only[Option.some.injEq,Prod.mk.injEq] at ha;obtain ⟨rfl,rfl⟩:=ha;obtain ⟨a1,a2⟩:=zx hl;obtain ⟨b1,b2⟩:=zx eI;have zr:=zhT (R:=VR0 S A w) (z:=z) (n:=len) (by omega) (fun x _=>.v x) (fun x hx=>zaT (aQ x hx));rw[bE] at zr
  obtain ⟨az,f1,f2⟩:=mA (R:=VR0 S A w) (z:=i.size) pcs (List.replicate len (z.cells.toList.map AV.v)) (ps.toList.map fun p=>(p.1,Act.eval ⟨tm,df⟩ p.2)) _ zr (by rw[Ap];omega)
   (fun j p r hj hr=>by
    obtain ⟨q,hq,bO⟩:=b2 j p hj;obtain ⟨q0,fK,cX⟩:=a2 j q hq;simp only[Au,fK,AN,Option.some.injEq] at hr;subst hr;split at cX
    ·rename_i al;simp only[Ag] at cX;obtain ⟨x,hx,rfl⟩:=cX;split at bO
     ·rename_i gb gS;split at bO
      ·rename_i cs ak;split at bO
       ·rename_i aK;cases bO;have g:=h.ev (df:=df) hx;obtain ⟨c1,c2,c3,c4⟩:=g.rel.cells gS;obtain ⟨d1,d2⟩:=zx ak;refine ⟨rfl,by simpa using al,aK,by simp only;omega,fun i a hi => ?_,c3⟩;obtain ⟨x0,ax,aC⟩:=d2 i a hi;obtain ⟨rfl,cD⟩:=zjQ aC;exact (c2 i a ax).to0 cD
       ·cases bO
      ·cases bO
     ·cases bO
    ·cases cX)
  have au:=run_bsl (P:=S.P) w t e len (ps.map fun (i,x)=>(i,Act.eval ⟨tm,df⟩ x)) az i z hu hi hz (by
    have:len * i.size<=4096 * 128:=BN hlen bM
    omega) (by rw[bE];simpa using f1)
  generalize n4:pcs.foldl (fun es p=>es.set p.1 p.2) (List.replicate len (z.cells.toList.map AV.v))=es at f2;have cK:es.length=len:=by
   have:∀ (ps:List (Nat×List AV)) (es:List (List AV)),(ps.foldl (fun es p=>es.set p.1 p.2) es).length=es.length:=by
    intro ps
    induction ps with
    | nil=>intro es;rfl
    | cons p ps ih=>intro es;simp only[Bw];rw[ih];simp
   rw[← n4,this];simp
  have hold:∀ k,k < w.heap.size->(w.alloc (.cells az e)).heap[k]? = w.heap[k]?:=fun k hk=>heap_alloc_old w _ k hk;have aW:(w.alloc (.cells az e)).heap[w.heap.size]? = some (.cells az e (0,0)):=heap_alloc_new w _;have eO:KeepO (fun _=>False) w (w.alloc (.cells az e)):=⟨rfl,rfl,rfl,by simp,fun k hk _=>hold k hk⟩;have kM:=h.grow (A':=fun c=>A c∨c=w.heap.size) eO (fun _ h=>.inl h) (fun c hc=>hc.imp id (fun e=>by omega)) (fun c hc=>hc.elim (fun hc=>by have:=h.Alt c hc;simp;omega) (fun e=>by simp;omega));have ml:RowRel (VR0 S (fun c=>A c∨c=w.heap.size) (w.alloc (.cells az e))) i.size es az:=f2.imp fun x v hx=>hx.mono (fun _ h=>.inl h) fun b hb=>hold b (h.Alt b hb);have cq:wR S (fun c=>A c∨c=w.heap.size) (fun _=>some w.heap.size) (w.alloc (.cells az e)) 0 (.arr i.size es):=ml.blk rfl aW;obtain ⟨q0,⟨q1,_⟩ | ⟨b',vs,bN,q1,q2,q3,q4,q5⟩⟩:=cq
  ·cases q1
  ·cases q1;rw[aW] at q2;cases q2;refine ⟨.value (.slice (some ⟨w.heap.size,0,none⟩) len len),_,_,σ,by simp only[execOp,ho,Sem.run_bind,au,Result.andThen_ok,Sem.run_pure],kM,.inl ⟨_,rfl,.of0 ?_,by simp[AV.refs]⟩⟩
   have:=VR0.sl (S:=S) (A:=fun c=>A c∨c=w.heap.size) (w:=w.alloc (.cells az e)) (z:=i.size) (es:=es) (b:=w.heap.size) (o:=0) (cap:=len) (u:=fun j=>az.getD j undef) (.inr rfl) (by rw[cK];exact AF _) q0
    (fun j hj=>by
     have h1:j < az.size:=by omega
     simp only[World.cell?,aW,AW];simp[Array.getD,h1]) (fun j hj=>q4 j hj) (fun ii ee c xx hi hc=>q5 ii ee c xx hi hc)
   rwa [cK] at this
 ·cases ha
def wd (h:SRel S A0 O w0 A σ w st tm) {A':Nat->Prop} (hA:∀ b,A b->A' b) {x y:AV} {v:Value} (hv:VR S A σ w x v) (hs:qi st.hp x=some y)
  (hr:∀ s b,σ s=some b->(s∈x.refs∨∃ s'∈x.refs,zbt st.hp s'=false)->A' b):VR0 S A' w y v:=by
 unfold qi at hs;split at hs
 ·rename_i s off;split at hs
  ·rename_i cs hb;split at hs
   ·rename_i aE ak;cases hs;obtain ⟨b,rfl,hσ⟩:=hv.pv_inv;obtain ⟨b',vs,el,k1,k2,k3,k4⟩:=h.hp _ _ hb;obtain rfl:b'=b:=Option.some.inj (k1.symm.trans hσ);obtain ⟨d1,d2⟩:=zx ak;have all:∀ s' b',σ s'=some b'->A' b':=fun s' b' ae=>hr s' b' ae (.inr ⟨s,by simp[AV.refs],by simp[zbt,hb]⟩);have:=VR0.ep (S:=S) (A:=A') (w:=w) (cs:=aE) (off:=off) (b:=b') (o:=0) (u:=fun j=>vs.getD j undef) (all s b' hσ) (fun j hj=>by
     have:j < vs.size:=by omega
     simp[World.cell?,k2,this,Array.getD]) (fun j x hj=>by
     obtain ⟨x0,ax,aC⟩:=d2 j x hj;exact (wg h hA (k4 j x0 ax) aC fun s' _ b'' ae=>all s' b'' ae).1)
    simpa using this
   ·cases hs
  ·cases hs
 ·rename_i cs;split at hs
  ·rename_i aE ak;cases hs;obtain ⟨vs,rfl,k1,k2⟩:=hv.agg_inv;obtain ⟨d1,d2⟩:=zx ak;refine .agg (by omega) fun j x hj => ?_;obtain ⟨x0,ax,aC⟩:=d2 j x hj;exact (wg h hA (k2 j x0 ax) aC fun s hs b hb=>hr s b hb (.inl (by rw[AV.refs];exact ze.2 ⟨x0,Ad ax,hs⟩))).1
  ·cases hs
 ·exact (wg h hA hv hs fun s ae b hb=>hr s b hb (.inl ae)).1
def zcZ (h:SRel S A0 O w0 A σ w st tm) {A':Nat->Prop} (hA:∀ b,A b->A' b) {x y:AV} {v:Value} (hv:VR S A σ w x v) (hs:w8 st.hp x=some y)
  (hr:∀ s b,σ s=some b->(s∈x.refs∨∃ s'∈x.refs,zbt st.hp s'=false)->A' b):VR0 S A' w y v:=by
 have sub:∀ {cs:List AV} {x0:AV} {j:Nat},cs[j]? = some x0->∀ s∈x0.refs,s∈AV.refsL cs:=fun hx s hs=>ze.2 ⟨_,Ad hx,hs⟩;unfold w8 at hs;split at hs
 ·rename_i f caps;split at hs
  ·rename_i aE ak;cases hs;obtain ⟨g,vs,rfl,k0,k1,k2⟩:=hv.fn_inv;obtain ⟨d1,d2⟩:=zx ak;refine .fn k0 (by omega) fun j x hj => ?_;obtain ⟨x0,ax,aC⟩:=d2 j x hj;exact wd h hA (k2 j x0 ax) aC fun s b hb hh=>hr s b hb (by rw[AV.refs];exact hh.imp (sub ax s) fun ⟨s',h1,h2⟩=>⟨s',sub ax s' h1,h2⟩)
  ·cases hs
 ·rename_i cs;split at hs
  ·rename_i aE ak;cases hs;obtain ⟨vs,rfl,k1,k2⟩:=hv.tup_inv;obtain ⟨d1,d2⟩:=zx ak;refine .tup (by omega) fun j x hj => ?_;obtain ⟨x0,ax,aC⟩:=d2 j x hj;exact wd h hA (k2 j x0 ax) aC fun s b hb hh=>hr s b hb (by rw[AV.refs];exact hh.imp (sub ax s) fun ⟨s',h1,h2⟩=>⟨s',sub ax s' h1,h2⟩)
  ·cases hs
 ·rename_i cs;split at hs
  ·rename_i aE ak;cases hs;obtain ⟨vs,rfl,k1,k2⟩:=hv.agg_inv;obtain ⟨d1,d2⟩:=zx ak;refine .agg (by omega) fun j x hj => ?_;obtain ⟨x0,ax,aC⟩:=d2 j x hj;exact wd h hA (k2 j x0 ax) aC fun s b hb hh=>hr s b hb (by rw[AV.refs];exact hh.imp (sub ax s) fun ⟨s',h1,h2⟩=>⟨s',sub ax s' h1,h2⟩)
  ·cases hs
 ·exact wd h hA hv hs hr
def ws {A':Nat->Prop} {w':World} {x:AV} {v:Value} (h:VR0 S A w x v) (hp:x.plain1=true):VR0 S A' w' x v:=by
 cases h with
 | bot=>exact .bot _
 | v=>exact .v _
 | @ifc t T y v h1 h2 =>
  cases y with
  | v x=>cases h2;exact .ifc h1 (.v _)
  | bot=>exact .ifc h1 (.bot _)
  | _=>simp[AV.plain1] at hp
 | _=>simp[AV.plain1] at hp
def zbQ {A':Nat->Prop} {w':World} {x:AV} {v:Value} (h:VR0 S A w x v) (hp:x.plain2=true):VR0 S A' w' x v:=by
 by_cases hx:∃ cs,x=.agg cs
 ·obtain ⟨cs,rfl⟩:=hx;cases h with
  | agg h1 h2=>exact .agg h1 fun i x hx=>ws (h2 i x hx) (Af.1 hp x (Ad hx))
 ·refine ws h ?_;unfold AV.plain2 at hp;unfold AV.plain1;split at hp
  ·rfl
  ·rfl
  ·rfl
  ·rfl
  ·exact absurd ⟨_,rfl⟩ hx
  ·cases hp
def zgV {A':Nat->Prop} {w':World} {x:AV} {v:Value} (h:VR0 S A w x v) (hp:x.plain=true):VR0 S A' w' x v:=by
 by_cases hx:∃ cs,x=.agg cs
 ·obtain ⟨cs,rfl⟩:=hx;cases h with
  | agg h1 h2=>exact .agg h1 fun i x hx=>ws (h2 i x hx) (Af.1 hp x (Ad hx))
 ·by_cases hy:∃ cs,x=.tup cs
  ·obtain ⟨cs,rfl⟩:=hy;cases h with
   | tup h1 h2=>exact .tup h1 fun i x hx=>zbQ (h2 i x hx) (Af.1 hp x (Ad hx))
  ·refine ws h ?_;unfold AV.plain at hp;unfold AV.plain1;split at hp
   ·rfl
   ·rfl
   ·rfl
   ·rfl
   ·exact absurd ⟨_,rfl⟩ hx
   ·exact absurd ⟨_,rfl⟩ hy
   ·cases hp
def SRel.jpre (h:SRel S A0 O w0 A σ w st tm) (jr:JR S A0 O w0):JR S (fun b=>A b∨∃ s,σ s=some b) (fun _=>False) w:=by
 have aW:∀ b,S.jg b->¬ (w0.heap.size<=b∨O b):=fun b hb e=>e.elim (fun e=>by have:=jr.lt b hb;omega) (jr.no b hb);refine ⟨S.jnK w0 w (fun b hb=>⟨jr.lt b hb,h.keep.block b (jr.lt b hb) (jr.no b hb)⟩) jr.jn,fun b hb=>AQ (jr.lt b hb) h.keep.size,fun b hb ha => ?_,fun b hb e=>e,jr.ng⟩;rcases ha with ha | ⟨s,hs⟩
 ·exact (h.Asub b ha).elim (jr.na b hb) (aW b hb)
 ·exact aW b hb (h.dom s b hs).2.2.2
def SRel.jpreA (h:SRel S A0 O w0 A σ w st tm) (jr:JR S A0 O w0):JR S A (fun _=>False) w:=(h.jpre jr).mono (fun _ h=>.inl h) fun _ h=>h
def SRel.reb (h:SRel S A0 O w0 A σ w st tm) (jr:JR S A0 O w0) {w':World} (hw:w.heap.size<=w'.heap.size) (hj:S.jn w'):SRel S A0 O (zeF S w0 w') A σ (zeF S w w') st tm∧JR S A0 O (zeF S w0 w'):=by
 have jp:=h.jpre jr;have hA:∀ b,A b->(zeF S w w').heap[b]? = w.heap[b]?:=fun b hb=>yD fun e=>jp.na b e (.inl hb);have hσ:∀ s b,σ s=some b->(zeF S w w').heap[b]? = w.heap[b]?:=fun s b hb=>yD fun e=>jp.na b e (.inr ⟨s,hb⟩);have b9:∀ s,zcg σ σ w (zeF S w w') s:=fun s=>⟨rfl,fun b cs el hb hc=>⟨cs,by rw[hσ s b hb];exact hc,rfl⟩⟩;refine ⟨⟨fun k=>(h.fr k).mono (fun _ h=>h) hA fun s _=>b9 s,fun s blk hb=>(h.hp s blk hb).mono (fun _ h=>h) hA rfl (fun b hb=>hσ s b hb) fun s' _=>b9 s',h.dang,h.dangV,fun s b hs => ?_,h.inj,fun b hb=>by rw[z6];exact h.Alt b hb,fun b hb=>by rw[z6];exact h.Asub b hb, ?_,h.kp.of fun s _ _=>⟨b9 s,fun z es he=>⟨es,he,rfl⟩⟩,fun b hb=>by rw[z6];exact h.Olt.1 b hb,h.Olt.2.1, ?_⟩, ?_⟩
 ·rw[z6,z6];exact h.dom s b hs
 ·refine ⟨h.keep.os,h.keep.tape,h.keep.output,by rw[z6,z6];exact h.keep.size,fun k hk hO => ?_⟩;rw[z6] at hk;have cx:=AQ hk h.keep.size;by_cases c:S.jg k
  ·rw[zfw c hk (AQ cx hw),zfw c cx (AQ cx hw)]
  ·rw[yD c,yD c];exact h.keep.block k hk hO
 ·exact h.Olt.2.2.keep (O:=S.jg) jr.ng ⟨rfl,rfl,rfl,by rw[z6];exact AF _,fun k _ hO=>yD hO⟩
 ·exact ⟨S.jnK w' _ (fun b hb=>⟨AQ (AQ (jr.lt b hb) h.keep.size) hw,zfw hb (jr.lt b hb) (AQ (AQ (jr.lt b hb) h.keep.size) hw)⟩) hj,fun b hb=>by rw[z6];exact jr.lt b hb,jr.na,jr.no,jr.ng⟩
def cP (S:Seat) (A0:Nat->Prop) (O:Hnd) (w0:World) (A:Nat->Prop) (σ:Nat->Option Nat) (w:World) (st:ASt) (tm:Array Value):Prop :=
 ∃ w1,RebR S w0 w1∧JR S A0 O w1∧SRel S A0 O w1 A σ w st tm
def zbc (S:Seat) (A:Nat->Prop) (w:World) (b?:Option Nat) (x:AV) (v:Value):Prop :=
 match x with
 | .own z es=>qm S A w b? z es v
 | x=>b? = none∧VR0 S A w x v
def qR (A:Nat->Prop) (β:Nat->Option Nat) (w w':World) (b:Nat):Prop:=(A b∨w.heap.size<=b)∧b < w'.heap.size∧∀ i,β i≠some b
def zaP (S:Seat) (A:Nat->Prop) (w:World) (β:Nat->Option Nat) (r:AV) (v:Value):Prop :=
 match r with
 | .tup rs=>∃ vs,v=.tuple vs∧rs.length=vs.size∧∀ (i:Nat) (x:AV),rs[i]? = some x->zbc S A w (β i) x (vs.getD i undef)
 | r=>zbc S A w (β 0) r v
def zjG (S:Seat) (A:Nat->Prop) (w w':World) (r:AV) (v:Value):Prop :=
 ∃ β:Nat->Option Nat,(∀ i b,β i=some b->w.heap.size<=b∧b < w'.heap.size)∧(∀ i j b,β i=some b->β j=some b->i=j)∧zaP S (qR A β w w') w' β r v
def zdh (S:Seat) (g:FuncId) (args:List AV) (r:AV):Prop :=
 ∀ (A:Nat->Prop) (w:World) (vs:Array Value),vs.size=args.length->((∀ b,A b->b < w.heap.size)∧Inv S w)->(∀ (i:Nat) (x:AV),args[i]? = some x->VR0 S A w x (vs.getD i undef)) ->
  Calls S.P g vs w fun e w'=>∃ v,e=.returned v∧KeepO (fun _=>False) w w'∧zjG S A w w' r v
def zev (S:Seat) (g:FuncId) (args:List AV) (r:AV):Prop :=
 ∀ (A:Nat->Prop) (w:World) (vs:Array Value),vs.size=args.length->((∀ b,A b->b < w.heap.size)∧Inv S w)->JR S A (fun _=>False) w->(∀ (i:Nat) (x:AV),args[i]? = some x->VR0 S A w x (vs.getD i undef)) ->
  Calls S.P g vs w fun e w'=>∃ v,e=.returned v∧KeepO S.jg w w'∧S.jn w'∧zjG S A w w' r v
def zdh.up {g:FuncId} {args:List AV} {r:AV} (h:zdh S g args r):zev S g args r:=by intro A w vs hl hA hJ ha;refine (h A w vs hl hA ha).mono ?_;rintro e w' ⟨v,he,hk,hr⟩;exact ⟨v,he,⟨hk.os,hk.tape,hk.output,hk.size,fun k ay _=>hk.block k ay fun e=>e⟩,hJ.after hk,hr⟩
def zjG.same {w1 w':World} {r:AV} {v:Value} (hs:w1.heap.size=w.heap.size) (h:zjG S A w w' r v):zjG S A w1 w' r v:=by
 obtain ⟨β,h1,h2,h3⟩:=h;have e:qR A β w1 w'=qR A β w w':=by funext b;simp only[qR,hs]
 exact ⟨β,fun i b hb=>by rw[hs];exact h1 i b hb,h2,by rw[e];exact h3⟩
def zjG.reb {w':World} {r:AV} {v:Value} (h:zjG S A w w' r v):zjG S A (zeF S w w') w' r v:=h.same z6
def zaJ (ι:Nat->Option Nat) (b:Nat):Prop:=∃ i,ι i=some b
def jP (ι:Nat->Option Nat) (outs:zcS) (b:Nat):Prop:=∃ i,ι i=some b∧∀ es,(i,es) ∉ outs
def zcf (S:Seat) (args:List AV) (ι:Nat->Option Nat) (vs:Array Value) (w w':World) (outs:zcS) (A':Nat->Prop):Prop :=
 ∀ (i:Nat) (es:List (List AV)) (z:Nat) (aY:List (List AV)),(i,es)∈outs->args[i]? = some (.own z aY)->es.length=aY.length∧qm S A' w' (ι i) z es (vs.getD i undef) ∧
  ∀ b cs el,ι i=some b->w.heap[b]? = some (.cells cs el (0,0))->∃ aE,w'.heap[b]? = some (.cells aE el (0,0))∧aE.size=cs.size
def zhR (S:Seat) (A E:Nat->Prop) (T:(Nat->Prop)->Prop) (w w':World) (r:AV) (v:Value):Prop :=
 ∃ β:Nat->Option Nat,(∀ i b,β i=some b->(w.heap.size<=b∨E b)∧b < w'.heap.size)∧(∀ i j b,β i=some b->β j=some b->i=j)∧T (qR (fun b=>A b∨E b) β w w')∧zaP S (qR (fun b=>A b∨E b) β w w') w' β r v
def zfl (S:Seat) (g:FuncId) (args:List AV) (r:AV) (outs:zcS):Prop :=
 ∀ (A:Nat->Prop) (w:World) (vs:Array Value) (ι:Nat->Option Nat),vs.size=args.length->((∀ b,A b->b < w.heap.size)∧Inv S w) ->
  ((∀ i b,ι i=some b->i < args.length∧b < w.heap.size∧¬ A b∧∀ p∈S.globB,p≠b)∧∀ i j b,ι i=some b->ι j=some b->i=j) ->
  (∀ (i:Nat) (x:AV),args[i]? = some x->zbc S A w (ι i) x (vs.getD i undef)) ->
  Calls S.P g vs w fun e w'=>∃ v,e=.returned v∧KeepO (zaJ ι) w w'∧zhR S A (jP ι outs) (zcf S args ι vs w w' outs) w w' r v
def zaq (S:Seat) (g:FuncId) (args:List AV) (r:AV) (outs:zcS):Prop :=
 ∀ (A:Nat->Prop) (w:World) (vs:Array Value) (ι:Nat->Option Nat),vs.size=args.length->((∀ b,A b->b < w.heap.size)∧Inv S w) ->
  ((∀ i b,ι i=some b->i < args.length∧b < w.heap.size∧¬ A b∧∀ p∈S.globB,p≠b)∧∀ i j b,ι i=some b->ι j=some b->i=j)->JR S A (zaJ ι) w ->
  (∀ (i:Nat) (x:AV),args[i]? = some x->zbc S A w (ι i) x (vs.getD i undef)) ->
  Calls S.P g vs w fun e w'=>∃ v,e=.returned v∧KeepO (fun b=>zaJ ι b∨S.jg b) w w'∧S.jn w'∧zhR S A (jP ι outs) (zcf S args ι vs w w' outs) w w' r v
def zfl.up {g:FuncId} {args:List AV} {r:AV} {outs:zcS} (h:zfl S g args r outs):zaq S g args r outs:=by intro A w vs ι hl hA hι hJ ha;refine (h A w vs ι hl hA hι ha).mono ?_;rintro e w' ⟨v,he,hk,hr⟩;exact ⟨v,he,⟨hk.os,hk.tape,hk.output,hk.size,fun k ay hn=>hk.block k ay fun e=>hn (.inl e)⟩,S.jnK w w' (fun b hb=>⟨hJ.lt b hb,hk.block b (hJ.lt b hb) (hJ.no b hb)⟩) hJ.jn,hr⟩
def qm.mono {A A':Nat->Prop} (hA:∀ b,A b->A' b) {b?:Option Nat} {z:Nat} {es:List (List AV)} {v:Value} (h:qm S A w b? z es v):qm S A' w b? z es v:=by
 obtain ⟨h0,h1 | ⟨b,cap,vs,el,h1,h2,h3,h4,h5,h6,h7,h8⟩⟩:=h
 ·exact ⟨h0,.inl h1⟩
 ·exact ⟨h0,.inr ⟨b,cap,vs,el,h1,h2,h3,h4,h5,h6,h7,fun i e c x hi hc=>(h8 i e c x hi hc).mono hA fun _ _=>rfl⟩⟩
def zbc.mono {A A':Nat->Prop} (hA:∀ b,A b->A' b) {b?:Option Nat} {x:AV} {v:Value} (h:zbc S A w b? x v):zbc S A' w b? x v:=by
 cases x with
 | own z es=>exact qm.mono hA h
 | _=>exact ⟨h.1,h.2.mono hA fun _ _=>rfl⟩
def zaP.mono {A A':Nat->Prop} (hA:∀ b,A b->A' b) {β:Nat->Option Nat} {r:AV} {v:Value} (h:zaP S A w β r v):zaP S A' w β r v:=by
 cases r with
 | tup rs=>obtain ⟨vs,h1,h2,h3⟩:=h;exact ⟨vs,h1,h2,fun i x hx=>(h3 i x hx).mono hA⟩
 | _=>unfold zaP at h ⊢;exact zbc.mono hA h
def jy {x:AV} {v:Value} (h:VR0 S A w x v):zbc S A w none x v:=by
 cases x with
 | own z es=>cases h
 | _=>exact ⟨rfl,h⟩
def zaF {b?:Option Nat} {x:AV} {v:Value} (h:zbc S A w b? x v) (hx:zD x=false):b? = none∧VR0 S A w x v:=by
 cases x with
 | own z es=>simp[zD] at hx
 | _=>exact h
def zbj {g:FuncId} {args:List AV} {r:AV} (h:zev S g args r) (ha:∀ x∈args,zD x=false):zaq S g args r []:=by intro A w vs ι hl hA hι hJ hargs;refine (h A w vs hl hA (hJ.mono (fun _ h=>h) fun _ h=>h.elim) fun i x hx=>(zaF (hargs i x hx) (ha x (Ad hx))).2).mono ?_;rintro e w' ⟨v,he,hk,hj,β,hβ,aJ,hr⟩;refine ⟨v,he,⟨hk.os,hk.tape,hk.output,hk.size,fun k ay hn=>hk.block k ay (fun e=>hn (.inr e))⟩,hj,β,fun i b hb=>⟨.inl (hβ i b hb).1,(hβ i b hb).2⟩,aJ,(fun i es z aY hm=>by cases hm),hr.mono fun b hb=>⟨hb.1.imp .inl id,hb.2⟩⟩
def zfx {g:FuncId} {args:List AV} {r:AV} (h:zdh S g args r) (ha:∀ x∈args,zD x=false):zaq S g args r []:=zbj h.up ha
def zaq.old {g:FuncId} {args:List AV} {r:AV} (h:zaq S g args r []) (ha:∀ x∈args,zD x=false):zev S g args r:=by
 intro A w vs hl hA hJ hargs;refine (h A w vs (fun _=>none) hl hA ⟨by simp,by simp⟩ (hJ.mono (fun _ h=>h) fun b ⟨i,e⟩=>by cases e) fun i x hx=>jy (hargs i x hx)).mono ?_;rintro e w' ⟨v,he,hk,hj,β,hβ,aJ,_,hr⟩;have hE:∀ b,¬ jP (fun _=>none) [] b:=fun b ⟨i,h,_⟩=>by cases h
 refine ⟨v,he,⟨hk.os,hk.tape,hk.output,hk.size,fun k ay hn=>hk.block k ay (fun e=>e.elim (fun ⟨i,e⟩=>by cases e) hn)⟩,hj,β,fun i b hb=>⟨(hβ i b hb).1.resolve_right (hE b),(hβ i b hb).2⟩,aJ,hr.mono fun b hb=>⟨hb.1.imp (fun h=>h.resolve_right (hE b)) id,hb.2⟩⟩
structure Plain (S:Seat):Prop where
 g:∀ b,¬ S.jg b
 n:∀ w,S.jn w
def zaq.old0 (hP:Plain S) {g:FuncId} {args:List AV} {r:AV} (h:zaq S g args r []) (ha:∀ x∈args,zD x=false):zdh S g args r:=by intro A w vs hl hA hargs;refine (h.old ha A w vs hl hA (.none hP.g hP.n _ _ _) hargs).mono ?_;rintro e w' ⟨v,he,hk,_,hr⟩;exact ⟨v,he,⟨hk.os,hk.tape,hk.output,hk.size,fun k ay _=>hk.block k ay (hP.g k)⟩,hr⟩
def zh2 {hp:Nat->Option Blk} {x y:AV} (h:qj hp x=some y):zD y=false:=by
 cases x with
 | own z es=>simp[qj] at h
 | pe s z i off=>simp only[qj] at h;repeat' split at h
                 all_goals (first | (cases h;rfl) | cases h)
 | lsl s z off len=>simp only[qj] at h;repeat' split at h
                    all_goals (first | (cases h;rfl) | cases h)
 | _=>simp only[qj] at h;repeat' split at h
      all_goals (first | (cases h;rfl) | cases h)
def zh1 {hp:Nat->Option Blk} {x y:AV} (h:qi hp x=some y):zD y=false:=by
 cases x with
 | pv s off=>simp only[qi] at h;repeat' split at h
             all_goals (first | (cases h;rfl) | cases h)
 | agg cs=>simp only[qi] at h;repeat' split at h
           all_goals (first | (cases h;rfl) | cases h)
 | _=>simp only[qi] at h;exact zh2 h
def wc {hp:Nat->Option Blk} {x y:AV} (h:w8 hp x=some y):zD y=false:=by
 cases x with
 | fn f cs=>simp only[w8] at h;repeat' split at h
            all_goals (first | (cases h;rfl) | cases h)
 | tup cs=>simp only[w8] at h;repeat' split at h
           all_goals (first | (cases h;rfl) | cases h)
 | agg cs=>simp only[w8] at h;repeat' split at h
           all_goals (first | (cases h;rfl) | cases h)
 | _=>simp only[w8] at h;exact zh1 h
def zb (S:Seat):Rets:=⟨fun f args r outs=>∀ g,qy g S.fns=some f->zaq S g args r outs,fun st st1=>∀ (A0:Nat->Prop) (O:Hnd) (w0:World) (A:Nat->Prop) (σ:Nat->Option Nat) (w:World) (tm:Array Value),SRel S A0 O w0 A σ w st tm->∃ A' σ',SRel S A0 O w0 A' σ' w st1 tm⟩
end
end
section
open Go Go.RowKit
section
variable {S:Seat} {A0:Nat->Prop} {O:Hnd} {w0:World} {A:Nat->Prop} {σ:Nat->Option Nat} {w:World} {st aa:ASt} {tm:Array Value} {df:List Deferred} {o:Oper} {v:AV} {d:Nat}
def SRel.addSite (h:SRel S A0 O w0 A σ w st tm) {d:Nat} (hd:st.hp d=none) {b?:Option Nat} {blk:Blk} (hr:blk.refs=[]) (hb:wR S A (upd σ d b?) w d blk)
  (hq:∀ b,b? = some b->b < w.heap.size∧¬ A b∧(w0.heap.size<=b∨O b)∧∀ s,σ s≠some b):SRel S A0 O w0 A (upd σ d b?) w (st.setH d (some blk)) tm:=by
 have b9:∀ s,st.hp s≠none->zcg σ (upd σ d b?) w w s:=fun s hs=>⟨zcj _ _ _ (fun e=>hs (e ▸ hd)),fun b cs el _ hb=>⟨cs,hb,rfl⟩⟩;refine ⟨fun k=>(h.fr k).mono (fun _ h=>h) (fun _ _=>rfl) fun s hs=>b9 s (h.dang k s hs),fun s b hs => ?_,fun k s hs => ?_,fun s cs hs s' ae => ?_,fun s b hs => ?_,fun s s' b h1 h2 => ?_,h.Alt,h.Asub,h.keep,h.kp.same b9 fun s z es he _=>by
  have ah:s≠d:=fun e=>by rw[e,hd] at he;cases he
  simp only[ASt.setH,upd,if_neg ah];exact he,h.Olt⟩
 ·simp only[ASt.setH,upd] at hs;split at hs
  ·rename_i e;subst e;cases hs;exact hb
  ·rename_i ah;refine (h.hp s b hs).mono (fun _ h=>h) (fun _ _=>rfl) (zcj _ _ _ ah) (fun _ _=>rfl) fun s' ae=>b9 s' ?_;cases b with
   | var cs=>exact h.dangV s cs hs s' (by rw[Blk.refs] at ae;exact ae)
   | arr z es=>simp[Blk.refs] at ae
 ·simp only[ASt.setH,upd];split
  ·simp
  ·exact h.dang k s hs
 ·simp only[ASt.setH,upd] at hs ⊢;split
  ·simp
  ·split at hs
   ·cases hs;rw[Blk.refs] at hr;rw[hr] at ae;cases ae
   ·exact h.dangV s cs hs s' ae
 ·simp only[upd] at hs;split at hs
  ·rename_i e;subst e;obtain ⟨k1,k2,k3,k4⟩:=hq b hs;exact ⟨by simp[ASt.setH,upd],k1,k2,k3⟩
  ·rename_i ah;obtain ⟨k1,k2⟩:=h.dom s b hs;exact ⟨by simp[ASt.setH,upd,ah];exact k1,k2⟩
 ·simp only[upd] at h1 h2;split at h1
  ·rename_i e1;split at h2
   ·rename_i e2;exact e1.trans e2.symm
   ·exact absurd h2 ((hq b h1).2.2.2 s')
  ·split at h2
   ·exact absurd h1 ((hq b h2).2.2.2 s)
   ·exact h.inj s s' b h1 h2
def jR {b?:Option Nat} {z:Nat} {es:List (List AV)} {rv:Value} (h:qm S A w b? z es rv) {σ':Nat->Option Nat} {d:Nat} (hσ:σ' d=b?) :
  VR S A σ' w (.lsl d z 0 es.length) rv∧wR S A σ' w d (.arr z es):=by
 obtain ⟨h0,⟨h1,rfl,rfl⟩ | ⟨b,cap,vs,el,h1,rfl,h2,h3,h4,h5,h6,h7⟩⟩:=h
 ·exact ⟨.lslnil (hσ.trans h1),h0,.inl ⟨hσ.trans h1,rfl⟩⟩
 ·refine ⟨.lsl (hσ.trans h1) h2 (fun _=>by simp) h4 (by simpa using h5) h3,h0,.inr ⟨b,vs,el,hσ.trans h1,h4,AO (AB _ h2) h5,h6,h7⟩⟩
def mB {β:Nat->Option Nat} {us:Array Value} {d:Nat} (hβ:∀ i b,β i=some b->b < w.heap.size∧¬ A b∧(w0.heap.size<=b∨O b)) (aJ:∀ i j b,β i=some b->β j=some b->i=j) :
  ∀ (rs:List AV) (i:Nat) {σ:Nat->Option Nat} {st:ASt} {ys:List AV} {aa:ASt},SRel S A0 O w0 A σ w st tm->(∀ (j:Nat) (x:AV),rs[j]? = some x->zbc S A w (β (i+j)) x (us.getD (i+j) undef)) ->
   (∀ s b k,σ s=some b->i<=k->β k≠some b)->zcI d i rs st=some (ys,aa) ->
   ∃ σ',SRel S A0 O w0 A σ' w aa tm∧ys.length=rs.length∧(∀ (j:Nat) (y:AV),ys[j]? = some y->Got S A σ' w aa y (us.getD (i+j) undef))∧∀ s,st.hp s≠none->σ' s=σ s∧aa.hp s≠none
 | [],i,σ,st,ys,aa,h,_,_,hi=>by
  simp only[zcI,Option.some.injEq,Prod.mk.injEq] at hi;obtain ⟨rfl,rfl⟩:=hi;exact ⟨σ,h,rfl,by simp,fun s hs=>⟨rfl,hs⟩⟩
 | x :: r,i,σ,st,ys,aa,h,ha,hd,hi=>by
  have dD:∀ (j:Nat) (x:AV),r[j]? = some x->zbc S A w (β (i+1+j)) x (us.getD (i+1+j) undef):=fun j y hj=>by
   have:=ha (j+1) y (by simpa using hj)
   rwa [show i+(j+1)=i+1+j by omega] at this
  have h0:=ha 0 x rfl;simp only[BC] at h0;by_cases hx:∃ z es,x=.own z es
  ·obtain ⟨z,es,rfl⟩:=hx;simp only[zcI] at hi;split at hi
   ·rename_i bD iY hn aM;simp only[Option.some.injEq,Prod.mk.injEq] at hi;obtain ⟨rfl,rfl⟩:=hi;have mj:qm S A w (β i) z es (us.getD i undef):=h0;obtain ⟨v1,v2⟩:=jR mj (σ':=upd σ (d+10000 * (i+1)) (β i)) (qt _ _ _);have h1:=h.addSite hn (b?:=β i) (blk:=.arr z es) rfl v2 fun b hb=>⟨(hβ i b hb).1,(hβ i b hb).2.1,(hβ i b hb).2.2,fun s hs=>hd s b i hs (AF _) hb⟩;obtain ⟨σ',k1,k2,k3,k4⟩:=mB hβ aJ r (i+1) h1 dD (fun s b k hs hk hb=>by
     simp only[upd] at hs;split at hs
     ·have:=aJ i k b hs hb;omega
     ·exact hd s b k hs (by omega) hb) aM
    obtain ⟨q1,q2⟩:=k4 (d+10000 * (i+1)) (by simp[ASt.setH,upd]);refine ⟨σ',k1,by simp[k2],fun j y hj => ?_,fun s hs => ?_⟩
    ·cases j with
     | zero =>
      simp at hj;subst hj;refine ⟨v1.mono (fun _ h=>h) (fun _ _=>rfl) fun s hs => ?_,fun s hs => ?_⟩
      ·rw[AV.refs,Ah] at hs;subst hs;exact ⟨q1,fun b cs el _ hb=>⟨cs,hb,rfl⟩⟩
      ·rw[AV.refs,Ah] at hs;subst hs;exact q2
     | succ j =>
      simp at hj;have:=k3 j y (by simpa using hj)
      rwa [show i+1+j=i+(j+1) by omega] at this
    ·have ah:s≠d+10000 * (i+1):=fun e=>hs (e ▸ hn);obtain ⟨e1,e2⟩:=k4 s (by simp[ASt.setH,upd,ah];exact hs);exact ⟨e1.trans (zcj _ _ _ ah),e2⟩
   ·cases hi
  ·have mj:β i=none∧VR0 S A w x (us.getD i undef):=by
    cases x with
    | own z es=>exact absurd ⟨z,es,rfl⟩ hx
    | _=>exact h0
   have aP:∃ bD,zcI d (i+1) r st=some (bD,aa)∧ys=x :: bD:=by
    cases x with
    | own z es=>exact absurd ⟨z,es,rfl⟩ hx
    | _ =>
     simp only[zcI] at hi;split at hi
     ·rename_i bD iY aM;simp only[Option.some.injEq,Prod.mk.injEq] at hi;obtain ⟨rfl,rfl⟩:=hi;exact ⟨_,aM,rfl⟩
     ·cases hi
   obtain ⟨bD,aM,rfl⟩:=aP;obtain ⟨σ',k1,k2,k3,k4⟩:=mB hβ aJ r (i+1) h dD (fun s b k hs hk=>hd s b k hs (by omega)) aM;refine ⟨σ',k1,by simp[k2],fun j y hj => ?_,k4⟩;cases j with
   | zero =>simp at hj;subst hj;exact ⟨.of0 mj.2,fun s hs=>(yF mj.2 s hs).elim⟩
   | succ j =>
    simp at hj;have:=k3 j y (by simpa using hj)
    rwa [show i+1+j=i+(j+1) by omega] at this
def zdJ (hg:SRel S A0 O w0 A σ w st tm) {β:Nat->Option Nat} (hβ':∀ i b,β i=some b->b < w.heap.size∧¬ A b∧(w0.heap.size<=b∨O b)) (aJ:∀ i j b,β i=some b->β j=some b->i=j)
  (iL:∀ s b k,σ s=some b->β k≠some b) {r:AV} {rv:Value} (hr:zaP S A w β r rv) {d:Nat} (hi:imp d r st=some (v,aa)) :
  ∃ σ',SRel S A0 O w0 A σ' w aa tm∧Got S A σ' w aa v rv:=by
 have plain:VR0 S A w r rv->imp d r st=some (r,st)->∃ σ',SRel S A0 O w0 A σ' w aa tm∧Got S A σ' w aa v rv:=(by intro hv he;rw[he] at hi;simp only[Option.some.injEq,Prod.mk.injEq] at hi;obtain ⟨rfl,rfl⟩:=hi;exact ⟨_,hg,.of0 hv,fun s hs=>(yF hv s hs).elim⟩);cases r with
 | own z es =>
  simp only[imp] at hi;split at hi
  ·rename_i hn;simp only[Option.some.injEq,Prod.mk.injEq] at hi;obtain ⟨rfl,rfl⟩:=hi;have bZ:qm S A w (β 0) z es rv:=hr;obtain ⟨v1,v2⟩:=jR bZ (σ':=upd σ d (β 0)) (qt _ _ _);exact ⟨_,hg.addSite hn (b?:=β 0) (blk:=.arr z es) rfl v2 fun b hb=>⟨(hβ' 0 b hb).1,(hβ' 0 b hb).2.1,(hβ' 0 b hb).2.2,fun s hs=>iL s b 0 hs hb⟩,v1,fun s hs=>by
    rw[AV.refs,Ah] at hs;subst hs;simp[ASt.setH,upd]⟩
  ·cases hi
 | tup rs =>
  obtain ⟨us,rfl,hl,ha⟩:=hr;simp only[imp] at hi;split at hi
  ·rename_i ys iY aM;simp only[Option.some.injEq,Prod.mk.injEq] at hi;obtain ⟨rfl,rfl⟩:=hi;obtain ⟨σ',k1,k2,k3,k4⟩:=mB (us:=us) hβ' aJ rs 0 hg (by simpa using ha) (fun s b k hs _=>iL s b k hs) aM;refine ⟨σ',k1,.tup (by omega) fun i x hx=>by simpa using (k3 i x hx).rel,fun s hs => ?_⟩;rw[AV.refs,ze] at hs;obtain ⟨x,hx,hs⟩:=hs;obtain ⟨i,hi⟩:=AJ.1 hx;exact (k3 i x hi).dang s hs
  ·cases hi
 | _=>unfold zaP at hr;exact plain hr.2 rfl
def imp_sound (h:SRel S A0 O w0 A σ w st tm) {w':World} (hk:KeepO (fun _=>False) w w') {r:AV} {rv:Value} (hr:zjG S A w w' r rv) {d:Nat} (hi:imp d r st=some (v,aa)) :
  ∃ A' σ',SRel S A0 O w0 A' σ' w' aa tm∧Got S A' σ' w' aa v rv:=by
 obtain ⟨β,hβ,aJ,hr⟩:=hr
 have hg:SRel S A0 O w0 (qR A β w w') σ w' st tm:=h.grow hk
  (fun b hb=>⟨.inl hb,AQ (h.Alt b hb) hk.size,fun i e=>by have:=(hβ i b e).1;have:=h.Alt b hb;omega⟩) (fun b hb=>hb.1) (fun b hb=>hb.2.1)
 obtain ⟨σ',k⟩:=zdJ hg (fun i b hb=>⟨(hβ i b hb).2,fun hh=>hh.2.2 i hb,.inl (AO h.keep.size (hβ i b hb).1)⟩) aJ
  (fun s b k hs hb=>by have:=(h.dom s b hs).2.1;have:=(hβ k b hb).1;omega) hr hi
 exact ⟨_,σ',k⟩
def zaa {hp:Nat->Option Blk}:∀ (i:Nat) (args:List AV),zK hp [] i args=zd (w8 hp) args
 | _,[]=>rfl
 | i,x :: r=>by
  have:=zaa (hp:=hp) (i+1) r;simp only[zK,handed,Cj,Dn,C9,Ao,if_false,BD,if_true,zd,this];cases w8 hp x<;>cases zd (w8 hp) r<;>rfl
def zcu:∀ (i:Nat) (args:List AV),zU [] i args=[]
 | _,[]=>rfl
 | i,x :: r=>by simp[zU,handed,zcu (i+1) r]
def q9:∀ (i:Nat) (args:List AV),zF [] i args=[]
 | _,[]=>rfl
 | i,x :: r=>by simp[zF,handed,q9 (i+1) r]
def ziC (h:SRel S A0 O w0 A σ w st tm) (jr:JR S A0 O w0) {args:List AV} {vs:Array Value} (hl:vs.size=args.length) (hg:∀ (i:Nat) (x:AV),args[i]? = some x->Got S A σ w st x (vs.getD i undef))
  {g f:Nat} (hf:qy g S.fns=some f) {frz:Bool} (hc:zba (zb S) frz [] f args d st v aa) :
  Calls S.P g vs w fun e w'=>∃ rv A' σ' w1,e=.returned rv∧RebR S w0 w1∧JR S A0 O w1∧SRel S A0 O w1 A' σ' w' aa tm∧Got S A' σ' w' aa v rv:=by
 obtain ⟨aj,r,outs,st1,ai,p1,p2,aZ,p4,⟨p7,p8,p5⟩,p6⟩:=hc;obtain rfl:outs=[]:=by simpa[jl] using p8
 rw[q9] at p5 p6;simp only[ASt.dropL,wD,Option.some.injEq] at p5;subst p5;simp only[impE] at p6;rw[zaa] at p1;have fJ:zev S g aj r:=(aZ g hf).old fun x hx=>(by obtain ⟨i,hi⟩:=AJ.1 hx;obtain ⟨x0,_,aC⟩:=(zx p1).2 i x hi;exact wc aC);obtain ⟨a1,a2⟩:=zx p1;simp only[BD,if_true] at p4;have sub:∀ {x0:AV} {j:Nat},args[j]? = some x0->∀ s∈x0.refs,s∈AV.refsL args:=fun hx s hs=>ze.2 ⟨_,Ad hx,hs⟩
 -- what is common
 have fin:∀ (A1:Nat->Prop) (σ1:Nat->Option Nat),SRel S A0 O w0 A1 σ1 w st1 tm->(∀ (i:Nat) (x:AV),aj[i]? = some x->VR0 S A1 w x (vs.getD i undef)) ->
   Calls S.P g vs w fun e w'=>∃ rv A' σ' w1,e=.returned rv∧RebR S w0 w1∧JR S A0 O w1∧SRel S A0 O w1 A' σ' w' aa tm∧Got S A' σ' w' aa v rv:=by
  intro A1 σ1 h1 ha;refine (fJ A1 w vs (by omega) ⟨h1.Alt,h1.inv⟩ (h1.jpreA jr) ha).mono fun e w' ⟨rv,he,hk,hj,hr⟩ => ?_;obtain ⟨q1,q2⟩:=h1.reb jr hk.size hj;obtain ⟨A',σ',k1,k2⟩:=imp_sound q1 hk.rebN hr.reb p6;exact ⟨rv,A',σ',_,he,zdr,q2,k1,k2⟩
 unfold settle at p4;split at p4
 ·rename_i fV;simp only[Option.some.injEq] at p4;subst p4;by_cases fp:AV.refsL args=[]
  ·exact fin A σ h fun i x hi=>by
    obtain ⟨x0,ax,aC⟩:=a2 i x hi;have mX:x0.refs=[]:=Ay.2 fun s hs=>by have:=sub ax s hs;rw[fp] at this;cases this
    exact zcZ h (fun _ h=>h) (hg i x0 ax).rel aC fun s b hb hh=>by rw[mX] at hh;simp at hh
  ·have eY:r.plain=true:=fV.resolve_right fp;rw[imp_plain eY] at p6;simp only[Option.some.injEq,Prod.mk.injEq] at p6;obtain ⟨rfl,rfl⟩:=p6;refine (fJ (fun b=>A b∨∃ s,σ s=some b) w vs (by omega) ⟨fun b hb=>hb.elim (h.Alt b) fun ⟨s,hs⟩=>(h.dom s b hs).2.1,h.inv⟩ (h.jpre jr) fun i x hi => ?_).mono fun e w' ⟨rv,he,hk,hj,hr⟩ => ?_
   ·obtain ⟨x0,ax,aC⟩:=a2 i x hi;exact zcZ h (fun _ h=>.inl h) (hg i x0 ax).rel aC fun s b hb _=>.inr ⟨s,hb⟩
   ·obtain ⟨q1,q2⟩:=h.reb jr hk.size hj;have kM:=q1.grow hk.rebN (fun _ h=>h) (fun _ h=>.inl h) (fun b hb=>AQ (h.Alt b hb) hk.size);have hv:VR0 S A w' r rv:=by
     obtain ⟨β,_,_,hr⟩:=hr;cases r with
     | own z es=>simp[AV.plain] at eY
     | tup rs =>
      obtain ⟨us,rfl,hl,ha⟩:=hr;refine .tup hl fun i x hx => ?_;have cD:=Af.1 eY x (Ad hx);have mi:=ha i x hx;cases x with
      | own z es=>simp[AV.plain2] at cD
      | _=>exact zbQ mi.2 cD
     | _=>exact zgV hr.2 eY
    exact ⟨rv,A,σ,_,he,zdr,q2,kM,.of0 hv,fun s hs=>(yF hv s hs).elim⟩
 ·split at p4
  ·rename_i fV gO;simp only[Option.some.injEq] at p4;subst p4;obtain ⟨A1,σ1,h1,m1,m2⟩:=h.freezeL (AV.refsL args) gO.2.2;have ct:∀ s∈AV.refsL args,zbt st.hp s=true:=fun s hs=>Af.1 gO.2.1 s hs;exact fin A1 σ1 h1 fun i x hi=>by
    obtain ⟨x0,ax,aC⟩:=a2 i x hi;refine zcZ h m1 (hg i x0 ax).rel aC fun s b hb hh => ?_;rcases hh with hh | ⟨s',h1,h2⟩
    ·exact m2 s (sub ax s hh) b (ct s (sub ax s hh)) hb
    ·rw[ct s' (sub ax s' h1)] at h2;cases h2
  ·cases p4
end
def qB (S : Seat) : Prop := ∀ g id, qy g S.fns = some id → ∃ fn, S.P.funcs[g]? = some fn ∧ fn.body.isSome = true ∧ (fn.name == "runtime.NumGoroutine") = false
def zco {S:Seat} (hS:qB S) {g id:Nat} (hg:qy g S.fns=some id) (args:Array Value) (w:World):(callFunc g args).run S.P w=.ok (.enter g args) w:=by
 obtain ⟨fn,h1,h2,h3⟩:=hS g id hg;cases hb:fn.body with
 | none=>rw[hb] at h2;cases h2
 | some c =>
  have hI : ¬ fn.name = "runtime.NumGoroutine" := by simpa using h3
  simp[callFunc,h1,hI,hb]
end
section
open Go Go.RowKit
section
variable {S:Seat} {A0:Nat->Prop} {O:Hnd} {w0:World} {A:Nat->Prop} {σ:Nat->Option Nat} {w:World} {st aa:ASt} {tm:Array Value} {df:List Deferred} {o:Oper} {v:AV} {d:Nat}
def zgX (h:SRel S A0 O w0 A σ w st tm) {s z:Nat} {es:List (List AV)} {v:Value} (hv:VR S A σ w (.lsl s z 0 es.length) v) (hb:st.hp s=some (.arr z es)):qm S A w (σ s) z es v:=by
 obtain ⟨b0,bb⟩:=h.hp s _ hb;refine ⟨b0, ?_⟩;rcases hv.lsl_inv with ⟨_,q2,q3,q4⟩ | ⟨b,o,cap,cs,el,e1,q0,q1,q2,q3,q4,q5⟩
 ·exact .inl ⟨q3,AK.1 q2,by rw[q4]⟩
 ·rcases bb with ⟨m1,m2⟩ | ⟨b',aE,bN,m1,m2,m3,m4,m5⟩
  ·rw[m1] at q0;cases q0
  ·obtain rfl:b'=b:=Option.some.inj (m1.symm.trans q0);rw[q3] at m2;cases m2;have ho:o=0:=by have:=q2 (.inr rfl);omega
   subst ho;exact .inr ⟨b',cap,cs,el,q0,e1,q1,q5,q3,by simpa using q4,m4,m5⟩
def zcs {hp:Nat->Option Blk} {muts:List Nat} (hm:muts.isEmpty=false):∀ (i:Nat) (args aj:List AV),zK hp muts i args=some aj->aj.length=args.length∧∀ (j:Nat) (x':AV),aj[j]? = some x'->∃ x,args[j]? = some x ∧
  ((handed muts (i+j)=true∧∃ s z es,x=.lsl s z 0 (List.length es)∧hp s=some (.arr z es)∧x'=.own z es)∨(handed muts (i+j)=false∧((x.refs=[]∧x'=x)∨(zbh muts=true∧fnOk hp x=true∧w8 hp x=some x'))))
 | _,[],aj,h=>by
  simp only[zK,Option.some.injEq] at h;subst h;exact ⟨rfl,by simp⟩
 | i,x :: r,aj,h=>by
  simp only[zK] at h;split at h
  ·rename_i y ys h1 h2;cases h;obtain ⟨k1,k2⟩:=zcs hm (i+1) r ys h2;refine ⟨by simp[k1],fun j x' hx => ?_⟩;cases j with
   | zero =>
    simp at hx;subst hx;refine ⟨x,rfl, ?_⟩;rw[BC];cases hh:handed muts i with
    | true =>
     rw[if_pos hh] at h1;split at h1
     ·split at h1
      ·split at h1
       ·rename_i hc;obtain ⟨rfl,rfl⟩:=hc;cases h1;exact .inl ⟨rfl,_,_,_,rfl,by assumption,rfl⟩
       ·cases h1
      ·cases h1
     ·cases h1
    | false =>
     rw[hh,hm] at h1;simp only[Ao,if_false] at h1;split at h1
     ·rename_i hr;cases h1;exact .inr ⟨rfl,.inl ⟨by simpa using hr,rfl⟩⟩
     ·split at h1
      ·rename_i hr;obtain ⟨q1,q2⟩:=AD.1 hr;exact .inr ⟨rfl,.inr ⟨q1,q2,h1⟩⟩
      ·cases h1
   | succ j =>
    simp only[AX] at hx ⊢;have:=k2 j x' hx
    rwa [show i+1+j=i+(j+1) by omega] at this
  ·cases h
def zac {muts:List Nat}:∀ (i:Nat) (args:List AV) (j s z o n:Nat),handed muts (i+j)=true->args[j]? = some (.lsl s z o n)->s∈zU muts i args
 | _,[],j,s,z,o,n,_,h=>by simp at h
 | i,x :: r,j,s,z,o,n,hh,h=>by
  simp only[zU,Aj];cases j with
  | zero =>simp at h;subst h;rw[BC] at hh;rw[if_pos hh];exact .inl (by simp)
  | succ j =>refine .inr (zac (i+1) r j s z o n (by rwa [show i+1+j=i+(j+1) by omega]) (by simpa using h))
def zbm:∀ (a b:List Nat),qg (a++b)=true->qg b=true∧∀ s,s∈a->s∈b->False:=by
 intro a b
 induction a with
 | nil=>intro h;exact ⟨h,by simp⟩
 | cons x a ih =>
  intro h;simp only[AE,qg,Am,AR,A7,decide_eq_false_iff_not,Aj] at h;obtain ⟨k1,k2⟩:=ih h.2;refine ⟨k1,fun s hs hb => ?_⟩;rcases Ar.1 hs with rfl | hs
  ·exact h.1 (.inr hb)
  ·exact k2 s hs hb
def zad {muts:List Nat}:∀ (i:Nat) (args:List AV),qg (zU muts i args)=true->∀ (j k s z o n z' o' n':Nat),handed muts (i+j)=true->handed muts (i+k)=true->args[j]? = some (.lsl s z o n)->args[k]? = some (.lsl s z' o' n')->j=k
 | _,[],_,j,k,s,z,o,n,z',o',n',_,_,h,_=>by simp at h
 | i,x :: r,hn,j,k,s,z,o,n,z',o',n',hj,hk,h1,h2=>by
  simp only[zU] at hn;obtain ⟨n1,n2⟩:=zbm _ _ hn;have head:∀ (k z' o' n':Nat),handed muts i=true->x=.lsl s z o n->handed muts (i+(k+1))=true->r[k]? = some (.lsl s z' o' n')->False:=(by rintro k z' o' n' hi rfl hk hr;refine n2 s ?_ (zac (i+1) r k s z' o' n' (by rwa [show i+1+k=i+(k+1) by omega]) hr);rw[if_pos hi];simp);have kT:∀ (k z' o' n':Nat),handed muts i=true->x=.lsl s z' o' n'->handed muts (i+(k+1))=true->r[k]? = some (.lsl s z o n)->False:=(by rintro k z' o' n' hi rfl hk hr;refine n2 s ?_ (zac (i+1) r k s z o n (by rwa [show i+1+k=i+(k+1) by omega]) hr);rw[if_pos hi];simp);cases j with
  | zero =>
   cases k with
   | zero=>rfl
   | succ k =>simp only[Cg,Option.some.injEq,AX] at h1 h2;exact (head k z' o' n' (by simpa using hj) h1 hk h2).elim
  | succ j =>
   cases k with
   | zero =>simp only[Cg,Option.some.injEq,AX] at h1 h2;exact (kT j z' o' n' (by simpa using hk) h2 hj h1).elim
   | succ k =>simp only[AX] at h1 h2;rw[zad (i+1) r n1 j k s z o n z' o' n' (by rwa [show i+1+j=i+(j+1) by omega]) (by rwa [show i+1+k=i+(k+1) by omega]) h1 h2]
def yM {muts:List Nat}:∀ (i:Nat) (args:List AV) (s:Nat),s∈zF muts i args↔∃ j z o n,args[j]? = some (.lsl s z o n)∧handed muts (i+j)=true∧muts.contains (i+j)=false
 | _,[],s=>by simp[zF]
 | i,x :: r,s=>by
  have ih:=yM (muts:=muts) (i+1) r s;simp only[zF,Aj,ih];constructor
  ·rintro (h | ⟨j,z,o,n,h1,h2,h3⟩)
   ·split at h
    ·rename_i hc;simp only[Am,AR] at hc;split at h
     ·simp at h;subst h;exact ⟨0,_,_,_,rfl,by simpa using hc.1,by simpa using hc.2⟩
     ·cases h
    ·cases h
   ·exact ⟨j+1,z,o,n,by simpa using h1,by rwa [show i+(j+1)=i+1+j by omega],by rwa [show i+(j+1)=i+1+j by omega]⟩
  ·rintro ⟨j,z,o,n,h1,h2,h3⟩;cases j with
   | zero =>simp at h1;subst h1;rw[BC] at h2 h3;left;rw[if_pos (by simp only[h2,h3];rfl)];simp
   | succ j =>right;exact ⟨j,z,o,n,by simpa using h1,by rwa [show i+1+j=i+(j+1) by omega],by rwa [show i+1+j=i+(j+1) by omega]⟩
def drop_none {st:ASt} {s r:Nat} (h:st.hp s=none):(st.drop r).hp s=none:=by
 simp only[ASt.drop,ASt.setH,upd];split
 ·rfl
 ·simp[ASt.scrub,h]
def drop_arr {st:ASt} {s r:Nat} (ah:s≠r) {z:Nat} {es:List (List AV)} (h:st.hp s=some (.arr z es)):(st.drop r).hp s=some (.arr z es):=by simp only[ASt.drop,ASt.setH,upd,if_neg ah,ASt.scrub,h,AN,zaK]
def pa:∀ (l:List Nat) {st:ASt} {s:Nat},st.hp s=none->(st.dropL l).hp s=none
 | [],_,_,h=>h
 | r :: l,st,s,h=>pa l (drop_none h)
def zhu:∀ (l:List Nat) {st:ASt} {s:Nat} {z:Nat} {es:List (List AV)},s ∉ l->st.hp s=some (.arr z es)->(st.dropL l).hp s=some (.arr z es)
 | [],_,_,_,_,_,h=>h
 | r :: l,st,s,z,es,hn,h=>zhu l (fun hm=>hn (Ae _ hm)) (drop_arr (fun e=>hn (by subst e;exact Ai)) h)
def zfa:∀ (l:List Nat) {st:ASt} {s:Nat},s∈l->(st.dropL l).hp s=none
 | r :: l,st,s,h=>by
  by_cases e:s=r
  ·subst e;exact pa l (by simp[ASt.drop,ASt.setH,upd])
  ·exact zfa l ((Ar.1 h).resolve_left e)
def SRel.dropSL:∀ (l:List Nat) {σ:Nat->Option Nat} {st:ASt},SRel S A0 O w0 A σ w st tm->zeH l=true->∃ σ',SRel S A0 O w0 A σ' w (st.dropL l) tm∧(∀ s,s∈l->σ' s=none)∧∀ s,s ∉ l->σ' s=σ s
 | [],σ,st,h,_=>⟨σ,h,by simp,fun _ _=>rfl⟩
 | r :: l,σ,st,h,hl=>by
  simp only[zeH,A8,Am,AR] at hl;obtain ⟨σ',k1,k2,k3⟩:=SRel.dropSL l (h.dropS hl.1) hl.2;refine ⟨σ',k1,fun s hs => ?_,fun s hs => ?_⟩
  ·by_cases e:s∈l
   ·exact k2 s e
   ·rw[k3 s e,if_pos ((Ar.1 hs).resolve_right e)]
  ·rw[k3 s (fun e=>hs (Ae _ e)),if_neg (fun (e:s=r)=>hs (by subst e;exact Ai))]
def zcn {args:List AV}:∀ (outs:zcS) {st ai:ASt},wD args st outs=some ai->ai.fr=st.fr∧∀ s,(ai.hp s=st.hp s∧∀ i es z o n,(i,es)∈outs->args[i]?≠some (.lsl s z o n)) ∨
  ∃ i es z o n z0 aY,(i,es)∈outs∧args[i]? = some (.lsl s z o n)∧st.hp s=some (.arr z0 aY)∧ai.hp s=some (.arr z0 es)∧es.length=aY.length
 | [],st,ai,h=>by
  simp only[wD,Option.some.injEq] at h;subst h;exact ⟨rfl,fun s=>.inl ⟨rfl,by simp⟩⟩
 | (i,es) :: r,st,ai,h=>by
  simp only[wD] at h;split at h
  ·rename_i s0 z o n ha;split at h
   ·rename_i z0 aY hb;split at h
    ·rename_i hl;obtain ⟨k1,k2⟩:=zcn r h;refine ⟨k1,fun s => ?_⟩;by_cases e:s=s0
     ·subst e;have e1:(st.setH s (some (.arr z0 es))).hp s=some (.arr z0 es):=by simp[ASt.setH,upd]
      rcases k2 s with ⟨m1,m2⟩ | ⟨i',aX,z',o',n',z1,ed,m1,m2,m3,m4,m5⟩
      ·exact .inr ⟨i,es,z,o,n,z0,aY,by simp,ha,hb,m1.trans e1,hl⟩
      ·rw[e1] at m3;cases m3;exact .inr ⟨i',aX,z',o',n',z0,aY,Ae _ m1,m2,hb,m4,by omega⟩
     ·have e1:(st.setH s0 (some (.arr z0 es))).hp s=st.hp s:=by simp[ASt.setH,upd,e]
      rcases k2 s with ⟨m1,m2⟩ | ⟨i',aX,z',o',n',z1,ed,m1,m2,m3,m4,m5⟩
      ·refine .inl ⟨m1.trans e1,fun i' aX z' o' n' hm => ?_⟩;rcases Ar.1 hm with hm | hm
       ·cases hm;rw[ha];simp;intro e' _ _ _;exact absurd e'.symm e
       ·exact m2 i' aX z' o' n' hm
      ·exact .inr ⟨i',aX,z',o',n',z1,ed,Ae _ m1,m2,e1 ▸ m3,m4,m5⟩
    ·cases h
   ·cases h
  ·cases h
def SRel.after (h:SRel S A0 O w0 A σ w st tm) {w':World} {A' B:Nat->Prop} {ai:ASt} (hk:KeepO B w w') (oE:∀ b,A b->A' b∧¬ B b) (hA2:∀ b,A' b->A b∨w.heap.size<=b∨B b) (hA3:∀ b,A' b->b < w'.heap.size)
  (hA4:∀ s b,σ s=some b->¬ A' b) (hB:∀ b,B b->w0.heap.size<=b∨O b) (cJ:ai.fr=st.fr)
  (cZ:∀ s,(ai.hp s=st.hp s∧∀ b,σ s=some b->¬ B b)∨∃ z es aX,st.hp s=some (.arr z es)∧ai.hp s=some (.arr z aX)∧aX.length=es.length∧wR S A' σ w' s (.arr z aX)∧zcg σ σ w w' s) :
  SRel S A0 O w0 A' σ w' ai tm:=by
 have hA:∀ b,A b->w'.heap[b]? = w.heap[b]?:=fun b hb=>hk.block b (h.Alt b hb) (oE b hb).2;have b9:∀ s,zcg σ σ w w' s:=fun s=>by
  rcases cZ s with ⟨_,k2⟩ | ⟨_,_,_,_,_,_,_,k⟩
  ·exact ⟨rfl,fun b cs el hb hc=>⟨cs,by rw[hk.block b (h.dom s b hb).2.1 (k2 b hb)];exact hc,rfl⟩⟩
  ·exact k
 have fP:∀ s,st.hp s≠none->ai.hp s≠none:=fun s hs=>by
  rcases cZ s with ⟨k1,_⟩ | ⟨_,_,_,_,k,_⟩
  ·rw[k1];exact hs
  ·rw[k];simp
 have nc:∀ s cs,ai.hp s=some (.var cs)->st.hp s=some (.var cs):=fun s cs hs=>by
  rcases cZ s with ⟨k1,_⟩ | ⟨_,_,_,_,k,_⟩
  ·rw[← k1];exact hs
  ·rw[k] at hs;cases hs
 refine ⟨fun k => ?_,fun s blk hb => ?_,fun k s hs => ?_,fun s cs hs s' ae => ?_,fun s b hs => ?_,h.inj,hA3,fun b hb => ?_, ?_, ?_,h.Olt⟩
 ·rw[cJ];exact (h.fr k).mono (fun b hb=>(oE b hb).1) hA fun s _=>b9 s
 ·rcases cZ s with ⟨k1,k2⟩ | ⟨z,es,aX,_,k2,_,k4,_⟩
  ·exact (h.hp s blk (k1 ▸ hb)).mono (fun b hb=>(oE b hb).1) hA rfl (fun b hb=>hk.block b (h.dom s b hb).2.1 (k2 b hb)) fun s' _=>b9 s'
  ·rw[k2] at hb;cases hb;exact k4
 ·rw[cJ] at hs;exact fP s (h.dang k s hs)
 ·exact fP s' (h.dangV s cs (nc s cs hs) s' ae)
 ·obtain ⟨d1,d2,d3,d4⟩:=h.dom s b hs;exact ⟨fP s d1,AQ d2 hk.size,hA4 s b hs,d4⟩
 ·rcases hA2 b hb with hb | hb | hb
  ·exact h.Asub b hb
  ·exact .inr (.inl (AO h.keep.size hb))
  ·exact .inr (hB b hb)
 ·refine ⟨hk.os.trans h.keep.os,hk.tape.trans h.keep.tape,hk.output.trans h.keep.output,AO h.keep.size hk.size,fun k dA hO => ?_⟩;rw[hk.block k (AQ dA h.keep.size) (fun hb=>(hB k hb).elim (fun e=>by omega) hO)];exact h.keep.block k dA hO
 ·refine h.kp.of fun s _ _=>⟨b9 s,fun z es he => ?_⟩;rcases cZ s with ⟨k1,_⟩ | ⟨z',ed,aX,k1,k2,k3,_⟩
  ·exact ⟨es,k1.trans he,rfl⟩
  ·rw[k1] at he;cases he;exact ⟨aX,k2,k3⟩
def zhR.same {w1 w':World} {E:Nat->Prop} {args:List AV} {vs:Array Value} {ι:Nat->Option Nat} {outs:zcS} {r:AV} {v:Value} (hs:w1.heap.size=w.heap.size) (hj:∀ i b,ι i=some b->w1.heap[b]? = w.heap[b]?) (h:zhR S A E (zcf S args ι vs w w' outs) w w' r v):zhR S A E (zcf S args ι vs w1 w' outs) w1 w' r v:=by
 obtain ⟨β,h1,h2,h3,h4⟩:=h;have e:qR (fun b=>A b∨E b) β w1 w'=qR (fun b=>A b∨E b) β w w':=by funext b;simp only[qR,hs]
 refine ⟨β,fun i b hb=>by rw[hs];exact h1 i b hb,h2, ?_,by rw[e];exact h4⟩;rw[e];intro i es z aY hm hx;obtain ⟨k1,k2,k3⟩:=h3 i es z aY hm hx;exact ⟨k1,k2,fun b cs el hb hc=>k3 b cs el hb (by rw[← hc,hj i b hb])⟩
def zhR.reb {w':World} {E:Nat->Prop} {args:List AV} {vs:Array Value} {ι:Nat->Option Nat} {outs:zcS} {r:AV} {v:Value} (hj:∀ i b,ι i=some b->¬ S.jg b) (h:zhR S A E (zcf S args ι vs w w' outs) w w' r v):zhR S A E (zcf S args ι vs (zeF S w w') w' outs) (zeF S w w') w' r v :=
 h.same z6 fun i b hb=>yD (hj i b hb)
def zeg {muts:List Nat}:∀ (i:Nat) (args:List AV) (j:Nat) (x:AV),args[j]? = some x->handed muts (i+j)=false->∀ s∈x.refs,s∈gm muts i args
 | _,[],j,x,h,_,_,_=>by simp at h
 | i,y :: r,j,x,h,hh,s,hs=>by
  simp only[gm,Aj];cases j with
  | zero =>simp at h;subst h;rw[BC] at hh;rw[if_neg (by rw[hh];simp)];exact .inl hs
  | succ j=>exact .inr (zeg (i+1) r j x (by simpa using h) (by rwa [show i+1+j=i+(j+1) by omega]) s hs)
def zhZ (h:SRel S A0 O w0 A σ w st tm) {B1:Nat->Prop} (hA:∀ b,A b->B1 b) (hV:∀ s b cs,σ s=some b->st.hp s=some (.var cs)->B1 b) {x y:AV} {v:Value} (hv:VR S A σ w x v) (hs:w8 st.hp x=some y) (hk:fnOk st.hp x=true):VR0 S B1 w y v:=by
 cases x with
 | fn f caps =>
  simp only[w8] at hs;split at hs
  ·rename_i aE ak;cases hs;obtain ⟨g,vs,rfl,k0,k1,k2⟩:=hv.fn_inv;obtain ⟨d1,d2⟩:=zx ak;refine .fn k0 (by omega) fun j x hj => ?_;obtain ⟨x0,ax,aC⟩:=d2 j x hj;have hc:fi st.hp x0=true:=Af.1 hk x0 (Ad ax);have fG:=k2 j x0 ax;by_cases hp:∃ s off,x0=.pv s off
   ·obtain ⟨s,off,rfl⟩:=hp;simp only[fi] at hc;split at hc
    ·rename_i cs hb;simp only[qi,hb] at aC;split at aC
     ·rename_i cs2 n8;cases aC;obtain ⟨b,e,hσ⟩:=fG.pv_inv;rw[e];obtain ⟨b',us,el,m1,m2,m3,m4⟩:=h.hp _ _ hb;obtain rfl:b'=b:=Option.some.inj (m1.symm.trans hσ);obtain ⟨e1,e2⟩:=zx n8;have:=VR0.ep (S:=S) (A:=B1) (w:=w) (cs:=cs2) (off:=off) (b:=b') (o:=0) (u:=fun j=>us.getD j undef) (hV s b' cs hσ hb) (fun j hj=>by
       have:j < us.size:=by omega
       simp[World.cell?,m2,this,Array.getD]) (fun j x hj=>by
       obtain ⟨x0,ax,aC⟩:=e2 j x hj;have hr:x0.refs=[]:=by simpa using Af.1 hc x0 (Ad ax)
       exact (wg h hA (m4 j x0 ax) aC fun s' ae _ _=>by rw[hr] at ae;cases ae).1)
      simpa using this
     ·cases aC
    ·cases hc
   ·have hr:x0.refs=[]:=by
     cases x0 with
     | pv s off=>exact absurd ⟨s,off,rfl⟩ hp
     | _=>simpa[fi] using hc
    exact wd h hA fG aC fun s b hb hh=>by rw[hr] at hh;simp at hh
  ·cases hs
 | _=>simp[fnOk] at hk
def zhR.less {w':World} {B1 E:Nat->Prop} {args:List AV} {vs:Array Value} {ι:Nat->Option Nat} {outs:zcS} {r:AV} {v:Value} (h:zhR S B1 E (zcf S args ι vs w w' outs) w w' r v) (hp:r.plain=true) (ho:(outs.all fun p=>p.2.all fun e=>e.all AV.plain1)=true):zhR S A E (zcf S args ι vs w w' outs) w w' r v:=by
 obtain ⟨β,h1,h2,h3,h4⟩:=h;refine ⟨β,h1,h2,fun i es z aY hm hx => ?_, ?_⟩
 ·obtain ⟨k1,⟨q0,q1⟩,k3⟩:=h3 i es z aY hm hx;refine ⟨k1,⟨q0,q1.imp id ?_⟩,k3⟩;rintro ⟨b,cap,us,el,a1,a2,a3,a4,a5,a6,a7,a8⟩;refine ⟨b,cap,us,el,a1,a2,a3,a4,a5,a6,a7,fun i e c x hi hc=>ws (a8 i e c x hi hc) ?_⟩;have:=Af.1 (Af.1 ho _ hm) e (Ad hi);exact Af.1 this x (Ad hc)
 ·cases r with
  | own z es=>simp[AV.plain] at hp
  | tup rs =>
   obtain ⟨us,rfl,hl,ha⟩:=h4;refine ⟨us,rfl,hl,fun i x hx => ?_⟩;have cD:=Af.1 hp x (Ad hx);have mi:=ha i x hx;cases x with
   | own z es=>simp[AV.plain2] at cD
   | _=>exact ⟨mi.1,zbQ mi.2 cD⟩
  | _=>exact ⟨h4.1,zgV h4.2 hp⟩
def ziD (h:SRel S A0 O w0 A σ w st tm) (jr:JR S A0 O w0) {args:List AV} {vs:Array Value} (hl:vs.size=args.length) (hg:∀ (i:Nat) (x:AV),args[i]? = some x->Got S A σ w st x (vs.getD i undef))
  {g f:Nat} (hf:qy g S.fns=some f) {frz:Bool} {muts:List Nat} (hm:muts.isEmpty=false) (hc:zba (zb S) frz muts f args d st v aa) :
  Calls S.P g vs w fun e w'=>∃ rv A' σ' w1,e=.returned rv∧RebR S w0 w1∧JR S A0 O w1∧SRel S A0 O w1 A' σ' w' aa tm∧Got S A' σ' w' aa v rv:=by
 obtain ⟨aj,r,outs,st1,ai,p1,p2,aZ,p4,⟨p79,p8,p5⟩,p6⟩:=hc;obtain ⟨p7,p9⟩:=AD.1 p79;obtain ⟨a1,a2⟩:=zcs hm 0 args aj p1;simp only[AW] at a2;rw[hm] at p4;simp only[Ao,if_false,settle,or_true,if_true,Option.some.injEq] at p4;subst p4
 let ι:Nat->Option Nat:=fun i=>if handed muts i=true then (match args[i]? with | some (.lsl s _ _ _)=>σ s | _=>none) else none
 have ι1:∀ i b,ι i=some b->handed muts i=true∧∃ s z o n,args[i]? = some (.lsl s z o n)∧σ s=some b:=by
  intro i b hb;simp only[ι] at hb;split at hb
  ·rename_i hh;split at hb
   ·exact ⟨hh,_,_,_,_,by assumption,hb⟩
   ·cases hb
  ·cases hb
 have ι2:∀ i s z o n,handed muts i=true->args[i]? = some (.lsl s z o n)->ι i=σ s:=(by intro i s z o n hh hi;simp only[ι,if_pos hh,hi]);have same:∀ i j b,ι i=some b->ι j=some b->i=j:=(by intro i j b hi hj;obtain ⟨h1,s,z,o,n,h2,h3⟩:=ι1 i b hi;obtain ⟨oO,s',z',o',n',lB,hI⟩:=ι1 j b hj;obtain rfl:=h.inj s s' b h3 hI;exact zad 0 args p2 i j s z o n z' o' n' (by simpa using h1) (by simpa using oO) h2 lB);have argQ:∀ (B1:Nat->Prop),(∀ b,A b->B1 b)->((zbh muts=true->gm muts 0 args=[])∨∀ s b cs,σ s=some b->st.hp s=some (.var cs)->B1 b)->∀ (i:Nat) (x:AV),aj[i]? = some x->zbc S B1 w (ι i) x (vs.getD i undef):=by
  intro B1 lz fy i x hx;obtain ⟨x0,ax,⟨hh,s,z,es,rfl,hb,rfl⟩ | ⟨hh,⟨hr,rfl⟩ | ⟨nn,hfn,pS⟩⟩⟩:=a2 i x hx
  ·rw[ι2 i _ _ _ _ hh ax];exact (zgX h (hg i _ ax).rel hb).mono lz
  ·have:ι i=none:=by simp only[ι,hh];rfl
   rw[this];exact jy (((hg i _ ax).rel.to0 hr).mono lz fun _ _=>rfl)
  ·have:ι i=none:=by simp only[ι,hh];rfl
   rw[this];refine jy ?_;rcases fy with fy | fy
   ·refine zcZ h lz (hg i _ ax).rel pS fun s b hb hs => ?_;have hr:x0.refs=[]:=Ay.2 fun s hs=>(by have:=zeg (muts:=muts) 0 args i x0 ax (by simpa using hh) s hs;rw[fy nn] at this;cases this);rw[hr] at hs;simp at hs
   ·exact zhZ h lz fy (hg i _ ax).rel pS hfn
 obtain ⟨B1,lz,fy,argR,less⟩:∃ B1:Nat->Prop,(∀ b,A b->B1 b)∧(∀ b,B1 b->A b∨∃ s cs,σ s=some b∧st.hp s=some (.var cs))∧(∀ (i:Nat) (x:AV),aj[i]? = some x->zbc S B1 w (ι i) x (vs.getD i undef)) ∧
   ∀ w' rv,zhR S B1 (jP ι outs) (zcf S aj ι vs w w' outs) w w' r rv->zhR S A (jP ι outs) (zcf S aj ι vs w w' outs) w w' r rv:=by
  simp only[zaD,BU,AR,Am,BZ] at p9;rcases p9 with (p9 | p9) | p9
  ·exact ⟨A,fun _ h=>h,fun _ h=>.inl h,argQ A (fun _ h=>h) (.inl fun e=>by rw[p9] at e;cases e),fun _ _ h=>h⟩
  ·exact ⟨A,fun _ h=>h,fun _ h=>.inl h,argQ A (fun _ h=>h) (.inl fun _=>p9),fun _ _ h=>h⟩
  ·exact ⟨fun b=>A b∨∃ s cs,σ s=some b∧st.hp s=some (.var cs),fun _ h=>.inl h,fun _ h=>h,argQ _ (fun _ h=>.inl h) (.inr fun s b cs h1 h2=>.inr ⟨s,cs,h1,h2⟩),fun _ _ h=>h.less p9.1 p9.2⟩
 have nB:∀ i b,ι i=some b->¬ B1 b:=by
  intro i b hb hB;obtain ⟨hh,s,z,o,n,h2,h3⟩:=ι1 i b hb;rcases fy b hB with hA | ⟨s',cs,h4,h5⟩
  ·exact (h.dom s b h3).2.2.1 hA
  ·obtain rfl:=h.inj s s' b h3 h4;have hi:i < aj.length:=by rw[a1];exact (Ac.1 h2).1
   obtain ⟨x0,ax,⟨_,s1,z1,ed,e1,bW,_⟩ | ⟨hn,_⟩⟩:=a2 i _ (Aa hi)
   ·rw[h2] at ax;cases ax;cases e1;rw[h5] at bW;cases bW
   ·rw[hh] at hn;cases hn
 have kL:∀ i es,(i,es)∈outs->muts.contains i=true∧i < 1000:=by
  intro i es hi;have:i∈jl muts:=by rw[← p8];exact Al.2 ⟨_,hi,rfl⟩
  simp only[jl,BH,BW] at this;exact ⟨by simpa[A7] using this.1,this.2⟩
 have eN:∀ i,muts.contains i=true->i < 1000->∃ es,(i,es)∈outs:=by
  intro i h1 h2;have:i∈outs.map (·.1):=by rw[p8];simp only[jl,BH,BW];exact ⟨by simpa[A7] using h1,h2⟩
  obtain ⟨⟨j,es⟩,h3,rfl⟩:=Al.1 this;exact ⟨es,h3⟩
 have ga:∀ i,handed muts i=true->i < 1000:=(by intro i hi;simp only[handed,Am,BW] at hi;exact hi.1);obtain ⟨σ2,s1,s2,s3⟩:=SRel.dropSL (zF muts 0 args) h p7;obtain ⟨f1,f2⟩:=zcn outs p5;have hσ2:∀ s b,σ2 s=some b->σ s=some b∧s ∉ zF muts 0 args:=by
  intro s b hs;by_cases e:s∈zF muts 0 args
  ·rw[s2 s e] at hs;cases hs
  ·exact ⟨(s3 s e) ▸ hs,e⟩
 have n5:∀ b,jP ι outs b->∃ s,s∈zF muts 0 args∧σ s=some b:=by
  rintro b ⟨i,hi,hn⟩;obtain ⟨h1,s,z,o,n,h2,h3⟩:=ι1 i b hi;refine ⟨s,(yM 0 args s).2 ⟨i,z,o,n,h2,by simpa using h1, ?_⟩,h3⟩;cases hq:muts.contains (0+i) with
  | false=>rfl
  | true =>obtain ⟨es,he⟩:=eN i (by simpa using hq) (ga i h1);exact absurd he (hn es)
 refine (aZ g hf B1 w vs ι (by omega) ⟨fun b hb=>(fy b hb).elim (h.Alt b) fun ⟨s,_,h1,_⟩=>(h.dom s b h1).2.1,h.inv⟩ ⟨fun i b hb => ?_,same⟩ ((h.jpre jr).mono (fun b hb=>(fy b hb).imp id fun ⟨s,_,h1,_⟩=>⟨s,h1⟩) (fun _ h=>h) |> fun jp=>⟨jp.jn,jp.lt,jp.na,fun b hb ⟨i,hi⟩=>by obtain ⟨_,s,_,_,_,_,h3⟩:=ι1 i b hi;exact (h.jpre jr).na b hb (.inr ⟨s,h3⟩),jp.ng⟩) argR).mono ?_
 ·obtain ⟨_,s,z,o,n,h2,h3⟩:=ι1 i b hb;obtain ⟨_,d2,d3,d4⟩:=h.dom s b h3;refine ⟨by rw[a1];exact (Ac.1 h2).1,d2,nB i b hb,fun p hp e => ?_⟩;rcases d4 with d4 | d4
  ·have:=h.Olt.2.2.lt p hp;omega
  ·exact h.Olt.2.1 p hp (e ▸ d4)
 rintro e w' ⟨rv,he,dA,hj,gW⟩;obtain ⟨h,kl⟩:=h.reb jr dA.size hj;obtain ⟨s1,_⟩:=s1.reb jr dA.size hj;have hk:=dA.reb;have hjA:∀ i b,ι i=some b->¬ S.jg b:=fun i b hi hb=>(by obtain ⟨_,s,_,_,_,_,h3⟩:=ι1 i b hi;exact (h.jpre kl).na b hb (.inr ⟨s,h3⟩));have gW:=zhR.reb hjA (less _ _ gW);have bX:RebR S w0 (zeF S w0 w'):=zdr;generalize zeF S w0 w'=W0 at *;generalize zeF S w w'=W at *;obtain ⟨β,hβ,aJ,hT,hp⟩:=gW;have pY:∀ s b,σ2 s=some b->¬ jP ι outs b:=(by intro s b hs hE;obtain ⟨s',q1,q2⟩:=n5 b hE;obtain ⟨q3,q4⟩:=hσ2 s b hs;exact q4 (h.inj s s' b q3 q2 ▸ q1));have oD:∀ b,A b->¬ zaJ ι b:=(by rintro b hb ⟨i,hi⟩;obtain ⟨_,s,z,o,n,_,h3⟩:=ι1 i b hi;exact (h.dom s b h3).2.2.1 hb);have rJ:∀ b,zaJ ι b->W0.heap.size<=b∨O b:=(by rintro b ⟨i,hi⟩;obtain ⟨_,s,z,o,n,_,h3⟩:=ι1 i b hi;exact (h.dom s b h3).2.2.2);have oC:∀ b,jP ι outs b->zaJ ι b:=fun b ⟨i,hi,_⟩=>⟨i,hi⟩;have hrel:SRel S A0 O W0 (qR (fun b=>A b∨jP ι outs b) β W w') σ2 w' ai tm:=by
  refine s1.after hk (fun b hb=>⟨⟨.inl (.inl hb),AQ (h.Alt b hb) hk.size,fun i e => ?_⟩,oD b hb⟩) (fun b hb => ?_) (fun b hb=>hb.2.1) (fun s b hs hb => ?_) rJ f1 fun s => ?_
  ·rcases (hβ i b e).1 with q | q
   ·have:=h.Alt b hb;omega
   ·exact oD b hb (oC b q)
  ·rcases hb.1 with (q | q) | q
   ·exact .inl q
   ·exact .inr (.inr (oC b q))
   ·exact .inr (.inl q)
  ·rcases hb.1 with (q | q) | q
   ·exact (s1.dom s b hs).2.2.1 q
   ·exact pY s b hs q
   ·have:=(s1.dom s b hs).2.1;omega
  ·rcases f2 s with ⟨q1,q2⟩ | ⟨i,es,z,o,n,z0,aY,q1,q2,q3,q4,q5⟩
   ·refine .inl ⟨q1,fun b hb ⟨i,hi⟩ => ?_⟩;obtain ⟨q3,q4⟩:=hσ2 s b hb;obtain ⟨q5,s',z,o,n,q6,q7⟩:=ι1 i b hi;obtain rfl:=h.inj s s' b q3 q7;cases hq:muts.contains i with
    | true =>obtain ⟨es,he⟩:=eN i hq (ga i q5);exact q2 i es z o n he q6
    | false=>exact q4 ((yM 0 args s).2 ⟨i,z,o,n,q6,by simpa using q5,by simpa using hq⟩)
   ·obtain ⟨m1,m2⟩:=kL i es q1;have hh:handed muts i=true:=by simp only[handed,m1,Dm,CT,BW];exact m2
    have aP:i < aj.length:=by rw[a1];exact (Ac.1 q2).1
    have hx:=Aa aP;obtain ⟨x0,ax,⟨_,s',z',aX,e1,aq,e2⟩ | ⟨rq,_⟩⟩:=a2 i _ hx
    ·rw[q2] at ax;cases ax;cases e1;have ah:s ∉ zF muts 0 args:=fun fq=>(by obtain ⟨j,z1,o1,n1,j1,j2,j3⟩:=(yM 0 args s).1 fq;have:=zad 0 args p2 i j s _ _ _ z1 o1 n1 (by simpa using hh) j2 q2 j1;subst this;simp only[AW] at j3;rw[m1] at j3;cases j3);have hd:=zhu (zF muts 0 args) ah aq;rw[q3] at hd;cases hd;obtain ⟨t1,t2,t3⟩:=hT i es _ aY q1 (by rw[hx,e2]);have hι:ι i=σ2 s:=(ι2 i _ _ _ _ hh q2).trans (s3 s ah).symm;refine .inr ⟨_,aY,es,q3,q4,t1, ?_,rfl,fun b cs el hb ak=>t3 b cs el (hι.trans hb) ak⟩;exact (jR t2 hι.symm).2
    ·rw[hh] at rq;cases rq
 have hβ':∀ i b,β i=some b->b < w'.heap.size∧¬ qR (fun b=>A b∨jP ι outs b) β W w' b∧(W0.heap.size<=b∨O b):=by
  intro i b hb;refine ⟨(hβ i b hb).2,fun hh=>hh.2.2 i hb, ?_⟩;rcases (hβ i b hb).1 with q | q
  ·exact .inl (AO h.keep.size q)
  ·exact rJ b (oC b q)
 have iL:∀ s b k,σ2 s=some b->β k≠some b:=by
  intro s b k hs hb;rcases (hβ k b hb).1 with q | q
  ·have:=(s1.dom s b hs).2.1;omega
  ·exact pY s b hs q
 -- the answer
 cases heq:zF muts 0 args with
 | nil =>rw[heq] at p6;simp only[impE] at p6;obtain ⟨σ',k⟩:=zdJ hrel hβ' aJ iL hp p6;exact ⟨rv,_,σ',_,he,bX,kl,k⟩
 | cons s0 rest =>
  rw[heq] at p6
  have put:∀ (z:Nat) (es:List (List AV)) (u:Value) (i:Nat),ai.hp s0=none->qm S (qR (fun b=>A b∨jP ι outs b) β W w') w' (β i) z es u ->
    SRel S A0 O W0 (qR (fun b=>A b∨jP ι outs b) β W w') (upd σ2 s0 (β i)) w' (ai.setH s0 (some (.arr z es))) tm∧VR S (qR (fun b=>A b∨jP ι outs b) β W w') (upd σ2 s0 (β i)) w' (.lsl s0 z 0 es.length) u:=by
   intro z es u i hn ho;obtain ⟨v1,v2⟩:=jR ho (σ':=upd σ2 s0 (β i)) (qt _ _ _);exact ⟨hrel.addSite hn (b?:=β i) (blk:=.arr z es) rfl v2 fun b hb=>⟨(hβ' i b hb).1,(hβ' i b hb).2.1,(hβ' i b hb).2.2,fun s hs=>iL s b i hs hb⟩,v1⟩
  have plain:zig r=true->(v,aa)=(r,ai)->∃ rv A' σ' w1,e=.returned rv∧RebR S w0 w1∧JR S A0 O w1∧SRel S A0 O w1 A' σ' w' aa tm∧Got S A' σ' w' aa v rv:=(by intro bY e1;cases e1;have p6':=zbv bY d aa;obtain ⟨σ',k⟩:=zdJ hrel hβ' aJ iL hp p6';exact ⟨rv,_,σ',_,he,bX,kl,k⟩);unfold impE at p6;split at p6
  ·rename_i hq;cases hq
  ·rename_i fE pI hq;cases hq;split at p6
   ·rename_i z es;split at p6
    ·rename_i hn;simp only[Option.some.injEq,Prod.mk.injEq] at p6;obtain ⟨rfl,rfl⟩:=p6;obtain ⟨k1,k2⟩:=put z es rv 0 hn hp;exact ⟨rv,_,_,_,he,bX,kl,k1,k2,fun s hs=>by rw[AV.refs,Ah] at hs;subst hs;simp[ASt.setH,upd]⟩
    ·cases p6
   ·rename_i z es iU;split at p6
    ·rename_i hn;split at p6
     ·rename_i hall;simp only[Option.some.injEq,Prod.mk.injEq] at p6;obtain ⟨rfl,rfl⟩:=p6;obtain ⟨us,rfl,hlen,eJ⟩:=hp;obtain ⟨k1,k2⟩:=put z es (us.getD 0 undef) 0 hn (eJ 0 _ rfl);have rest:∀ (i:Nat) (x:AV),iU[i]? = some x->VR0 S (qR (fun b=>A b∨jP ι outs b) β W w') w' x (us.getD (i+1) undef):=fun i x hx =>
       (zaF (eJ (i+1) x (by simpa using hx)) (by simpa using Af.1 hall x (Ad hx))).2
      refine ⟨_,_,_,_,he,bX,kl,k1,.tup (by simpa using hlen) fun i x hx => ?_,fun s hs => ?_⟩
      ·cases i with
       | zero=>simp at hx;subst hx;exact k2
       | succ i=>exact .of0 (rest i x (by simpa using hx))
      ·rw[AV.refs,ze] at hs;obtain ⟨x,hx,hs⟩:=hs;rcases Ar.1 hx with rfl | hx
       ·rw[AV.refs,Ah] at hs;subst hs;simp[ASt.setH,upd]
       ·obtain ⟨i,hi⟩:=AJ.1 hx;exact (yF (rest i x hi) s hs).elim
     ·cases p6
    ·cases p6
   ·split at p6
    ·rename_i bY;exact plain bY (Option.some.inj p6).symm
    ·cases p6
end
end
end Ab
