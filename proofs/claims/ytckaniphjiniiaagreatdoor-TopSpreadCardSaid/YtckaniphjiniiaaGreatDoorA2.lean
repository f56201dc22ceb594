import Derived.Test.YtckaniphjiniiaaGreatDoorA1
import Derived.Laws.Tables
import Derived.Great.BuildSlice
import Derived.Deep.DeepAppendWide
set_option linter.all false
namespace Ab
section
open Go Go.RowKit
section
variable {S:Seat} {A0:Nat->Prop} {O:Hnd} {w0:World} {A:Nat->Prop} {σ:Nat->Option Nat} {w:World} {st aa:ASt} {tm:Array Value} {df:List Deferred} {o:Oper} {v:AV} {d:Nat}
def ziw {x:Operand} (h:zix x=true):x=.const .nilIface:=by
 unfold zix at h;split at h
 ·rfl
 ·cases h
def zjN {P:Program} {t:TypeId} {ms:Array (String×TypeId)} (hu:P.underlying t=some (.interface ms)) (w:World) :
  (Op.equal t .nilIface .nilIface).run P w=.ok true w∧(∀T v,(Op.equal t (.iface T v) .nilIface).run P w=.ok false w)∧(∀T v,(Op.equal t .nilIface (.iface T v)).run P w=.ok false w):=by
 have e1:∀dd,(Op.equalIn (dd+1) t .nilIface .nilIface).run P w=.ok true w:=fun dd=>by simp[Op.equalIn,run_underlying hu]
 have e2:∀dd T v,(Op.equalIn (dd+1) t (.iface T v) .nilIface).run P w=.ok false w:=fun dd T v=>by simp[Op.equalIn,run_underlying hu]
 have e3:∀dd T v,(Op.equalIn (dd+1) t .nilIface (.iface T v)).run P w=.ok false w:=fun dd T v=>by simp[Op.equalIn,run_underlying hu]
 exact⟨e1 9999,e2 9999,e3 9999⟩
def zgS (h:SRel S A0 O w0 A σ w st tm) {neg:Bool} {t u:TypeId} {ms:Array (String×TypeId)} {x y z:Operand} {z':AOpd} (ho:o.op=.binOp (if neg then .neq else .eql) t x y u) (hu:S.P.underlying t=some (.interface ms))
  (hz:(z=x∧zix y=true)∨(z=y∧zix x=true)) (h1:qB S z=some z') (ha:aop (.eqn false neg z') d st=some (v,aa)):w7 S A0 O w0 w tm df o v aa:=by
 have g1:=h.ev (df:=df) h1;obtain⟨k1,k2,k3⟩:=zjN hu w
 have key:∀b:Bool,((Act.eval ⟨tm,df⟩ z=.nilIface∧b=true)∨((∃T v,Act.eval ⟨tm,df⟩ z=.iface T v)∧b=false)) ->
   (execOp (Act.eval ⟨tm,df⟩) o).run S.P w=.ok (.value (.bool (if neg then !b else b))) w:=by
  intro b hb;have ek:Act.eval ⟨tm,df⟩ (.const .nilIface)=.nilIface:=rfl;rcases hz with⟨rfl,hy⟩|⟨rfl,hx⟩
  ·obtain rfl:=ziw hy;rcases hb with⟨hb,rfl⟩|⟨⟨T,v,hb⟩,rfl⟩
   ·cases neg<;>simp[execOp,ho,hb,ek,eqGuard_nil_constR,binOp,k1]
   ·cases neg<;>simp[execOp,ho,hb,ek,eqGuard_at_iface,binOp,k2]
  ·obtain rfl:=ziw hx;rcases hb with⟨hb,rfl⟩|⟨⟨T,v,hb⟩,rfl⟩
   ·cases neg<;>simp[execOp,ho,hb,ek,eqGuard_nil_constL,binOp,k1]
   ·cases neg<;>simp[execOp,ho,hb,ek,eqGuard_nil_iface,binOp,k3]
 simp only[aop,Au,if_false] at ha;split at ha
 ·rename_i he;rw[he] at g1;simp only[DM,DN] at ha;obtain⟨rfl,rfl⟩:=ha;exact .same h (rv:=.bool (!neg)) (by rw[key true (.inl ⟨g1.rel.v_inv,rfl⟩)];cases neg<;>rfl) (zfA _)
 ·rename_i k x1 he;rw[he] at g1;obtain⟨T,v',e,_⟩:=g1.rel.ifc_inv;simp only[DM,DN] at ha;obtain⟨rfl,rfl⟩:=ha;exact .same h (rv:=.bool neg) (by rw[key false (.inr ⟨⟨T,v',e⟩,rfl⟩)];cases neg<;>rfl) (zfA _)
 ·rename_i k x1 he;rw[he] at g1;simp only[DM,DN] at ha;obtain⟨rfl,rfl⟩:=ha;exact .same h (rv:=.bool neg) (by rw[key false (.inr ⟨⟨_,_,g1.rel.v_inv⟩,rfl⟩)];cases neg<;>rfl) (zfA _)
 ·cases ha
def op_eqnS (h:SRel S A0 O w0 A σ w st tm) {neg:Bool} {t u e:TypeId} {x:Operand} {x':AOpd} (ho:o.op=.binOp (if neg then .neq else .eql) t x (.const (.slice none 0 0)) u) (hu:S.P.underlying t=some (.slice e))
  (h1:qB S x=some x') (ha:aop (.eqn true neg x') d st=some (v,aa)):w7 S A0 O w0 w tm df o v aa:=by
 have g1:=h.ev (df:=df) h1;have k:∀b n c,(Op.equal t (.slice b n c) (.slice none 0 0)).run S.P w=.ok b.isNone w:=by
  intro b n c;have e1:∀dd,(Op.equalIn (dd+1) t (.slice b n c) (.slice none 0 0)).run S.P w=.ok b.isNone w:=fun dd=>by cases b<;>simp[Op.equalIn,run_underlying hu]
  exact e1 9999
 have key:∀b n c,Act.eval ⟨tm,df⟩ x=.slice b n c->(execOp (Act.eval ⟨tm,df⟩) o).run S.P w=.ok (.value (.bool (if neg then !b.isNone else b.isNone))) w:=(by intro b n c hb;have e2:Act.eval ⟨tm,df⟩ (.const (.slice none 0 0))=.slice none 0 0:=rfl;cases neg<;>simp[execOp,ho,hb,e2,eqGuard_at_slice,binOp,k])
 simp only[aop,if_true] at ha;split at ha
 ·rename_i he;rw[he] at g1;simp only[DM,DN] at ha;obtain⟨rfl,rfl⟩:=ha;exact .same h (rv:=.bool (!neg)) (by rw[key _ _ _ g1.rel.v_inv];cases neg<;>rfl) (zfA _)
 ·rename_i a l c he;rw[he] at g1;simp only[DM,DN] at ha;obtain⟨rfl,rfl⟩:=ha;exact .same h (rv:=.bool neg) (by rw[key _ _ _ g1.rel.v_inv];cases neg<;>rfl) (zfA _)
 ·rename_i z e1 es he;rw[he] at g1;simp only[DM,DN] at ha;obtain⟨rfl,rfl⟩:=ha;rcases g1.rel.sl_inv with⟨hf,_⟩|⟨b,o',cap,u,e1,_⟩|⟨hf,_⟩
  ·cases hf
  ·exact .same h (rv:=.bool neg) (by rw[key _ _ _ e1];cases neg<;>rfl) (zfA _)
  ·cases hf
 ·cases ha
def scTy (P:Program) (t:TypeId):Sc->Prop
 | .int=>∃k,P.underlying t=some (.int k)
 | .bool=>P.underlying t=some .bool
 | .str=>P.underlying t=some .string
def scEq_int {x y:AV} {r:Bool} (h:zmO .int x y=some r):∃k a b,x=.v (.int k a)∧y=.v (.int k b)∧r=decide (a=b):=by
 unfold zmO at h;split at h
 ·rename_i k a k' b _;split at h
  ·rename_i hk;subst hk;cases h;exact⟨_,_,_,rfl,rfl,rfl⟩
  ·cases h
 ·rename_i hh;cases hh
 ·rename_i hh;cases hh
 ·cases h
def scEq_bool {x y:AV} {r:Bool} (h:zmO .bool x y=some r):∃a b,x=.v (.bool a)∧y=.v (.bool b)∧r=decide (a=b):=by
 unfold zmO at h;split at h
 ·rename_i hh;cases hh
 ·cases h;exact⟨_,_,rfl,rfl,rfl⟩
 ·rename_i hh;cases hh
 ·cases h
def scEq_str {x y:AV} {r:Bool} (h:zmO .str x y=some r):∃a b,x=.v (.string a)∧y=.v (.string b)∧r=decide (a=b):=by
 unfold zmO at h;split at h
 ·rename_i hh;cases hh
 ·rename_i hh;cases hh
 ·cases h;exact⟨_,_,rfl,rfl,rfl⟩
 ·cases h
def scEq_run {P:Program} {s:Sc} {t:TypeId} {x y:AV} {a b:Value} {r:Bool} (h:zmO s x y=some r) (ha:VR S A σ w x a) (hb:VR S A σ w y b) (ht:scTy P t s) (dd:Nat) (w1:World) :
  (Op.equalIn (dd+1) t a b).run P w1=.ok r w1:=by
 cases s with
 | int =>obtain⟨k,n,m,rfl,rfl,rfl⟩:=scEq_int h;obtain⟨k',ht⟩:=ht;rw[ha.v_inv,hb.v_inv,run_equalIn_int w1 dd t _ k' _ _ ht];by_cases he:n=m<;>simp[he]
 | bool =>obtain⟨n,m,rfl,rfl,rfl⟩:=scEq_bool h;rw[ha.v_inv,hb.v_inv,run_equalIn_bool' w1 dd t _ _ ht];cases n<;>cases m<;>rfl
 | str =>obtain⟨n,m,rfl,rfl,rfl⟩:=scEq_str h;rw[ha.v_inv,hb.v_inv,run_equalIn_string w1 dd t _ _ ht,zlL]
def sC {P:Program} {cs ds:List AV} {xs ys:Array Value} (hx:cs.length=xs.size) (hy:ds.length=ys.size)
  (h1:∀(i:Nat) (x:AV),cs[i]? = some x->VR S A σ w x (xs.getD i undef)) (h2:∀(i:Nat) (x:AV),ds[i]? = some x->VR S A σ w x (ys.getD i undef)) (dd:Nat) (w1:World) :
  ∀(fs:List Field) (l:List (Nat×Sc)) (r:Bool),zeX P fs=some l->zkd cs ds l=some r->(Op.eqFields (dd+1) xs ys fs).run P w1=.ok r w1
 | [],l,r,hl,hr=>by
  simp only[zeX,DM] at hl;subst hl;simp only[zkd,DM] at hr;subst hr;simp[Op.eqFields]
 | f::fs,l,r,hl,hr=>by
  simp only[zeX] at hl;split at hl
  ·cases hl
  ·rename_i hn
   have step:∀(s:Sc) (l':List (Nat×Sc)),zeX P fs=some l'->l=(f.offset,s)::l' ->
     scTy P f.type s->(Op.eqFields (dd+1) xs ys (f::fs)).run P w1=.ok r w1:=by
    intro s l' bH hle ht;subst hle;simp only[zkd] at hr;split at hr
    ·rename_i x y ex ey;split at hr
     ·rename_i a b ha hb;cases hr;have hi:f.offset<xs.size:=by have:=(Ac.1 ex).1;omega
      have hj:f.offset<ys.size:=by have:=(Ac.1 ey).1;omega
      have ih:=sC hx hy h1 h2 dd w1 fs l' b bH hb;have ks:=scEq_run (P:=P) (t:=f.type) ha (h1 _ _ ex) (h2 _ _ ey) ht dd w1;have mH:(isAgg f.type).run P w1=.ok false w1:=by
       unfold isAgg;cases s with
       | int=>obtain⟨k,ht⟩:=ht;rw[Sem.run_bind,run_underlying ht];rfl
       | bool=>rw[Sem.run_bind,run_underlying ht];rfl
       | str=>rw[Sem.run_bind,run_underlying ht];rfl
      have p1:(part f.type xs f.offset).run P w1=.ok (xs.getD f.offset undef) w1:=by simp[part,mH,Array.getD,hi]
      have p2:(part f.type ys f.offset).run P w1=.ok (ys.getD f.offset undef) w1:=by simp[part,mH,Array.getD,hj]
      simp only[Op.eqFields,ne_eq,hn,not_false_eq_true,if_true,Sem.run_bind,p1,p2,ks,Result.andThen_ok];cases a<;>simp[ih]
     ·cases hr
    ·cases hr
   split at hl
   ·rename_i k l' hu bH;cases hl;exact step .int l' bH rfl ⟨k,hu⟩
   ·rename_i l' hu bH;cases hl;exact step .bool l' bH rfl hu
   ·rename_i l' hu bH;cases hl;exact step .str l' bH rfl hu
   ·cases hl
def op_eqa (h:SRel S A0 O w0 A σ w st tm) {neg:Bool} {t u:TypeId} {fs:Array Field} {l:List (Nat×Sc)} {x y:Operand} {x' y':AOpd} (ho:o.op=.binOp (if neg then .neq else .eql) t x y u) (hu:S.P.underlying t=some (.struct fs))
  (hg:S.P.eqGuardType S.P.depth t=false) (hs:S.P.stoodInHeld t=false) (hl:zeX S.P fs.toList=some l) (h1:qB S x=some x') (h2:qB S y=some y') (ha:aop (.eqa neg l x' y') d st=some (v,aa)):w7 S A0 O w0 w tm df o v aa:=by
 have g1:=h.ev (df:=df) h1;have g2:=h.ev (df:=df) h2;have hf:S.P.fieldsOf t=fs:=by simp[Program.fieldsOf,hu]
 simp only[aop] at ha;split at ha
 ·rename_i cs ds eC eB;rw[eC] at g1;rw[eB] at g2;obtain⟨xs,e1,l1,v1⟩:=g1.rel.agg_inv;obtain⟨ys,e2,l2,v2⟩:=g2.rel.agg_inv;split at ha
  ·rename_i r hr;simp only[DM,DN] at ha;obtain⟨rfl,rfl⟩:=ha;have ke:(Op.equalIn 10000 t (.agg xs) (.agg ys)).run S.P w=.ok r w:=(by rw[run_equalIn_agg w 9999 t xs ys (by rw[hf];exact hu) hs,hf];exact sC l1 l2 v1 v2 9998 w fs.toList l r hl hr);refine .same h (rv:=.bool (if neg then !r else r)) ?_ (zfA _)
   cases neg
   ·simp[execOp,ho,e1,e2,run_eqGuard_agg w _ t x y xs ys hg,run_eql_struct,ke]
   ·simp[execOp,ho,e1,e2,run_eqGuard_agg w _ t x y xs ys hg,run_neq_struct,ke]
  ·cases ha
 ·cases ha
def SRel.evs (h:SRel S A0 O w0 A σ w st tm):∀ {xs:List Operand} {as:List AOpd},zku S xs=some as ->
  xs.length=as.length∧∀(i:Nat) (a:AV),(as.map st.ev)[i]? = some a->Got S A σ w st a ((xs.map (Act.eval ⟨tm,df⟩)).getD i undef)
 | [],as,hc=>by simp only[zku,zd,DM] at hc;subst hc;exact⟨rfl,by simp⟩
 | x::xs,as,hc=>by
  simp only[zku,zd] at hc;split at hc
  ·rename_i y ys hy dh;cases hc;obtain⟨k1,k2⟩:=SRel.evs h (xs:=xs) dh;refine⟨by simp[k1],fun i a hi => ?_⟩;cases i with
   | zero=>simp at hi;subst hi;simpa using h.ev hy
   | succ i=>simp at hi;simpa using k2 i a (by simpa using hi)
  ·cases hc
def op_mkfn (h:SRel S A0 O w0 A σ w st tm) {f id:Nat} {first caps:Array Operand} {l:List AOpd} (ho:o.op=.makeFunc (.func f) first caps) (hf:first.size=0) (hid:ql f S.fns=some id) (hl:zku S caps.toList=some l)
  (ha:aop (.mkfn id l) d st=some (v,aa)):w7 S A0 O w0 w tm df o v aa:=by
 obtain⟨k1,k2⟩:=h.evs (df:=df) hl;simp only[aop,DM,DN] at ha;obtain⟨rfl,rfl⟩:=ha;have gf:first=#[]:=CI hf;have e:∀i,(caps.map (Act.eval ⟨tm,df⟩)).getD i undef=(caps.toList.map (Act.eval ⟨tm,df⟩)).getD i undef:=(by intro i;simp[Ao,List.getD]);refine .same h (rv:=.func (.func f) #[] (caps.map (Act.eval ⟨tm,df⟩))) (by simp[execOp,ho,gf,Instr.makeFunc]) ⟨.fn hid (by simp at k1 ⊢;omega) fun i a hi => ?_,fun s hs => ?_⟩
 ·rw[e];exact (k2 i a hi).rel
 ·rw[AV.refs,zh] at hs;obtain⟨x,hx,hs⟩:=hs;obtain⟨i,hi⟩:=AA.1 hx;exact (k2 i x hi).dang s hs
end
end
section
open Go Go.RowKit
section
variable {S:Seat} {A0:Nat->Prop} {O:Hnd} {w0:World} {A:Nat->Prop} {σ:Nat->Option Nat} {w:World} {st aa:ASt} {tm:Array Value} {df:List Deferred} {o:Oper} {v:AV} {d:Nat}
def zas.mono {A':Nat->Prop} {σ':Nat->Option Nat} {w':World} {s:Nat} {blk:Blk} (h:zas S A σ w s blk) (hA:∀b,A b->A' b) (hw:∀b,A b->w'.heap[b]? = w.heap[b]?)
  (hs:σ' s=σ s) (hb:∀b,σ s=some b->w'.heap[b]? = w.heap[b]?) (hr:∀s'∈blk.refs,zcY σ σ' w w' s'):zas S A' σ' w' s blk:=by
 cases blk with
 | var cs =>obtain⟨b,vs,el,h1,h2,h3,h4⟩:=h;exact⟨b,vs,el,hs.trans h1,(hb _ h1).trans h2,h3,fun i x hx=>(h4 i x hx).mono hA hw fun s' ae=>hr s' (by rw[Blk.refs];exact zh.2 ⟨x,Ae hx,ae⟩)⟩
 | arr z es =>
  obtain⟨h0,⟨h1,h2⟩|⟨b,vs,el,h1,h2,h3,h5,h4⟩⟩:=h
  ·exact⟨h0,.inl ⟨hs.trans h1,h2⟩⟩
  ·exact⟨h0,.inr ⟨b,vs,el,hs.trans h1,(hb _ h1).trans h2,h3,h5,fun i e c x hi hc=>(h4 i e c x hi hc).mono hA hw⟩⟩
def KeepO.alloc (w:World) (O:Nat->Prop) (ob:Obj):KeepO O w (w.alloc ob):=⟨rfl,rfl,rfl,by simp,fun k hk _=>heap_alloc_old w ob k hk⟩
def KeepO.drew (w:World) (O:Nat->Prop):KeepO O w w.drew:=⟨rfl,rfl,rfl,Az _,fun _ _ _=>rfl⟩
def VR0.heap {w':World} (hw:w'.heap=w.heap) {x:AV} {v:Value} (h:VR0 S A w x v):VR0 S A w' x v:=h.mono (fun _ h=>h) fun _ _=>by rw[hw]
def VR.heap {w':World} (hw:w'.heap=w.heap) {x:AV} {v:Value} (h:VR S A σ w x v):VR S A σ w' x v :=
 h.mono (fun _ h=>h) (fun _ _=>by rw[hw]) fun s _=>⟨rfl,fun b cs el _ hb=>⟨cs,by rw[hw];exact hb,rfl⟩⟩
def SRel.drew (h:SRel S A0 O w0 A σ w st tm):SRel S A0 O w0 A σ w.drew st tm :=
 ⟨fun k=>VR.heap (w:=w) (w':=w.drew) rfl (h.fr k),fun s blk hb=>(h.hp s blk hb).mono (fun _ h=>h) (fun _ _=>rfl) rfl (fun _ _=>rfl) fun _ _=>⟨rfl,fun _ cs _ _ hb=>⟨cs,hb,rfl⟩⟩,
  h.dang,h.dangV,h.dom,h.inj,h.Alt,h.Asub,h.keep.trans (KeepO.drew _ _),h.kp.same (fun _ _=>⟨rfl,fun _ cs _ _ hb=>⟨cs,hb,rfl⟩⟩) (fun _ _ _ h _=>h),h.Olt⟩
def SRel.newBlk (h:SRel S A0 O w0 A σ w st tm) {d:Nat} (hd:st.hp d=none) {vs:Array Value} {el:TypeId} {blk:Blk} (hk:∀s∈blk.refs,st.hp s≠none)
  (hb:zas S A (upd σ d (some w.heap.size)) (w.alloc (.cells vs el)) d blk) :
  SRel S A0 O w0 A (upd σ d (some w.heap.size)) (w.alloc (.cells vs el)) (st.setH d (some blk)) tm:=by
 have hσd:σ d=none:=by
  cases hq:σ d with
  | none=>rfl
  | some b=>exact absurd hd (h.dom d b hq).1
 have hA:∀b,A b->(w.alloc (.cells vs el)).heap[b]? = w.heap[b]?:=fun b hb=>heap_alloc_old w _ b (h.Alt b hb);have cN:∀s,st.hp s≠none->zcY σ (upd σ d (some w.heap.size)) w (w.alloc (.cells vs el)) s:=(by intro s hs;have ah:s≠d:=fun e=>hs (e▸hd);exact⟨gH _ _ _ ah,fun b cs bT hb hc=>⟨cs,by rw[heap_alloc_old w _ b (h.dom s b hb).2.1];exact hc,rfl⟩⟩)
 refine⟨fun k=>(h.fr k).mono (fun _ h=>h) hA fun s hs=>cN s (h.dang k s hs),fun s b hs => ?_,fun k s hs => ?_,fun s cs hs s' ae => ?_,fun s b hs => ?_,fun s s' b h1 h2 => ?_,
  fun b hb=>by have:=h.Alt b hb;simp;omega,h.Asub,h.keep.trans (KeepO.alloc _ _ _),h.kp.same cN fun s z es he _=>by
   have ah:s≠d:=fun e=>by rw[e,hd] at he;cases he
   simp only[ASt.setH,upd,if_neg ah];exact he,h.Olt⟩
 ·simp only[ASt.setH,upd] at hs;split at hs
  ·rename_i e;subst e;cases hs;exact hb
  ·rename_i ah;refine (h.hp s b hs).mono (fun _ h=>h) hA (gH _ _ _ ah) (fun b' aw=>heap_alloc_old w _ b' (h.dom s b' aw).2.1) fun s' ae=>cN s' ?_;cases b with
   | var cs=>exact h.dangV s cs hs s' (by rw[Blk.refs] at ae;exact ae)
   | arr z es=>simp[Blk.refs] at ae
 ·simp only[ASt.setH,upd];split
  ·simp
  ·exact h.dang k s hs
 ·simp only[ASt.setH,upd] at hs ⊢;split
  ·simp
  ·split at hs
   ·cases hs;exact hk s' (by rw[Blk.refs];exact ae)
   ·exact h.dangV s cs hs s' ae
 ·simp only[upd] at hs;split at hs
  ·rename_i e;subst e;cases hs;refine⟨by simp[ASt.setH,upd],by simp,fun ha => ?_,.inl h.keep.size⟩;have:=h.Alt _ ha;omega
  ·rename_i ah;obtain⟨k1,k2,k3,k4⟩:=h.dom s b hs;exact⟨by simp[ASt.setH,upd,ah];exact k1,by simp;omega,k3,k4⟩
 ·simp only[upd] at h1 h2;split at h1
  ·rename_i e1;subst e1;cases h1;split at h2
   ·rename_i e2;exact e2.symm
   ·have:=(h.dom s' _ h2).2.1;omega
  ·split at h2
   ·rename_i e2;subst e2;cases h2;have:=(h.dom s _ h1).2.1;omega
   ·exact h.inj s s' b h1 h2
def zaa (w:World) (g:Nat) (old new:Array Value) (el:TypeId) (hg:w.heap[g]? = some (.cells old el (0,0))) (hs:new.size=old.size) (s:Nat):zcY σ σ w (w.setRow g new) s:=by
 refine⟨rfl,fun b cs bT _ hc => ?_⟩;by_cases hb:b=g
 ·subst hb;rw[hg] at hc;cases hc;exact⟨new,setRow_heap w b old new el _ hg,hs⟩
 ·exact⟨cs,by rw[setRow_other w g b new hb];exact hc,rfl⟩
def SRel.setBlk (h:SRel S A0 O w0 A σ w st tm) {s b:Nat} (hσ:σ s=some b) {old new:Array Value} {el:TypeId} (hg:w.heap[b]? = some (.cells old el (0,0))) (hs:new.size=old.size) {blk:Blk}
  (hk:∀s'∈blk.refs,st.hp s'≠none) (hb:zas S A σ (w.setRow b new) s blk) (hf:∀z es,zcj s=true->st.hp s=some (.arr z es)->∃bj,blk=.arr z bj∧bj.length=es.length):SRel S A0 O w0 A σ (w.setRow b new) (st.setH s (some blk)) tm:=by
 obtain⟨d1,d2,d3,d4⟩:=h.dom s b hσ;have hA:∀c,A c->(w.setRow b new).heap[c]? = w.heap[c]?:=fun c hc=>setRow_other w b c new (fun e=>d3 (e▸hc))
 refine⟨fun k=>(h.fr k).mono (fun _ h=>h) hA fun s' _=>zaa w b old new el hg hs s',fun s' b' ae => ?_,fun k s' ae => ?_,fun s' cs ae eU bG => ?_,fun s' b' ae => ?_,h.inj,
  fun c hc=>by rw[size_setRow];exact h.Alt c hc,h.Asub,⟨h.keep.os,h.keep.tape,h.keep.output,by rw[size_setRow];exact h.keep.size,fun k hk hO => ?_⟩,
  h.kp.of fun s' dF hn=>⟨zaa w b old new el hg hs s',fun z es he=>by
   simp only[ASt.setH,upd];split
   ·rename_i e;subst e;obtain⟨bj,k1,k2⟩:=hf z es dF he;exact⟨bj,by rw[k1],k2⟩
   ·exact⟨es,he,rfl⟩⟩,h.Olt⟩
 ·simp only[ASt.setH,upd] at ae;split at ae
  ·rename_i e;subst e;cases ae;exact hb
  ·rename_i ah;refine (h.hp s' b' ae).mono (fun _ h=>h) hA rfl (fun c hc=>setRow_other w b c new fun e=>ah (h.inj s' s b (e▸hc) hσ)) fun eU _=>zaa w b old new el hg hs eU
 ·simp only[ASt.setH,upd];split
  ·simp
  ·exact h.dang k s' ae
 ·simp only[ASt.setH,upd] at ae ⊢;split
  ·simp
  ·split at ae
   ·cases ae;exact hk eU (by rw[Blk.refs];exact bG)
   ·exact h.dangV s' cs ae eU bG
 ·obtain⟨k1,k2,k3,k4⟩:=h.dom s' b' ae;refine⟨?_,by rw[size_setRow];exact k2,k3,k4⟩;simp only[ASt.setH,upd];split
  ·simp
  ·exact k1
 ·rw[setRow_other w b k new (fun e=>by subst e;exact d4.elim (fun d4=>by omega) hO)];exact h.keep.block k hk hO
def SRel.scrub (h:SRel S A0 O w0 A σ w st tm) (s:Nat):SRel S A0 O w0 A σ w (st.scrub s) tm:=by
 have hx:∀x v,VR S A σ w x v->VR S A σ w (Ab.scrub s x) v:=by
  intro x v hv;unfold Ab.scrub;split
  ·exact .of0 (.bot v)
  ·exact hv
 have hr:∀x s',s'∈(Ab.scrub s x).refs->s'∈x.refs:=by
  intro x s' hs;unfold Ab.scrub at hs;split at hs
  ·simp[AV.refs] at hs
  ·exact hs
 have hn:∀k,(st.scrub s).hp k≠none↔st.hp k≠none:=by intro k;simp[ASt.scrub]
 refine⟨fun k=>hx _ _ (h.fr k),fun s' blk hb => ?_,fun k s' ae=>(hn s').2 (h.dang k s' (hr _ _ ae)),fun s' cs ae eU bG=>(hn eU).2 ?_,fun s' b ae => ?_,h.inj,h.Alt,h.Asub,h.keep,h.kp.same (fun _ _=>⟨rfl,fun _ cs _ _ hb=>⟨cs,hb,rfl⟩⟩) (fun s' z es he _=>by simp[ASt.scrub,he,zbe]),h.Olt⟩
 ·simp only[ASt.scrub,Ag] at hb;obtain⟨b0,cZ,rfl⟩:=hb;have:=h.hp s' b0 cZ;cases b0 with
  | var cs =>obtain⟨b,vs,el,h1,h2,h3,h4⟩:=this;refine⟨b,vs,el,h1,h2,by simpa using h3,fun i x hi => ?_⟩;simp only[As,Ag] at hi;obtain⟨y,hy,rfl⟩:=hi;exact hx _ _ (h4 i y hy)
  | arr z es=>exact this
 ·simp only[ASt.scrub,Ag] at ae;obtain⟨b0,cZ,he⟩:=ae;cases b0 with
  | var iy =>simp only[zbe,Blk.var.injEq] at he;subst he;rw[zh] at bG;obtain⟨x,bq,iE⟩:=bG;rw[Al] at bq;obtain⟨y,hy,rfl⟩:=bq;exact h.dangV s' iy cZ eU (zh.2 ⟨y,hy,hr _ _ iE⟩)
  | arr z es=>simp[zbe] at he
 ·obtain⟨k1,k2⟩:=h.dom s' b ae;exact⟨(hn s').2 k1,k2⟩
def zfP (s:Nat) (x:AV):s∉(Ab.scrub s x).refs:=by
 unfold Ab.scrub;split
 ·simp[AV.refs]
 ·rename_i h;simpa using h
def VR.frz (h:SRel S A0 O w0 A σ w st tm) {s z0:Nat} {es:List (List AV)} (hb:st.hp s=some (.arr z0 es)) {x:AV} {v:Value} (hv:VR S A σ w x v) :
  VR S (fun b=>A b∨σ s=some b) (fun k=>if k=s then none else σ k) w (Ab.frz s z0 es x) v:=by
 have gen:x.refs.contains s=false->VR S (fun b=>A b∨σ s=some b) (fun k=>if k=s then none else σ k) w x v:=by
  intro hc;refine hv.mono (fun _ h=>.inl h) (fun _ _=>rfl) fun s' ae => ?_;have ah:s'≠s:=fun e=>by subst e;simp at hc;exact hc ae
  exact⟨by simp[ah],fun b cs el _ hb=>⟨cs,hb,rfl⟩⟩
 obtain⟨k0,lu⟩:=h.hp s _ hb;unfold Ab.frz;split
 ·rename_i s' z off len;split
  ·rename_i e;subst e;split
   ·rename_i hc;obtain⟨rfl,hle⟩:=hc;have hlen:((es.drop off).take len).length=len:=by simp;omega
    rcases hv.lsl_inv with⟨rfl,rfl,k1,rfl⟩|⟨b,o',cap,cs,el,rfl,k1,k2,k3,k4,k5,k6⟩
    ·exact .of0 (by simpa using VR0.slnil _)
    ·rcases lu with⟨j1,_⟩|⟨b',vs,bT,j1,j2,j3,j5,j4⟩
     ·rw[j1] at k1;cases k1
     ·obtain rfl:b'=b:=Option.some.inj (j1.symm.trans k1);refine .of0 ?_;by_cases h0:len=0
      ·subst h0;simp only[Ci];exact VR0.sl (es:=[]) (o:=o') (u:=fun _=>undef) (.inr k1) (BM _) (by simp) (by simp) (by simp) (by simp)
      ·have ho:=k3 (.inl (by omega));subst ho;have aF:len*z+off*z<=es.length*z:=by rw[←Bb];exact AH _ (by omega)
       have:=VR0.sl (S:=S) (A:=fun b=>A b∨σ s'=some b) (w:=w) (z:=z) (es:=(es.drop off).take len) (b:=b') (o:=off*z) (cap:=cap) (u:=fun j=>vs.getD (off*z+j) undef) (.inr k1) (by omega)
        (fun e he=>k0 e (Bo (BT he)))
        (fun j hj=>by
         rw[hlen] at hj;have:off*z+j<vs.size:=by omega
         simp[World.cell?,j2,this,Array.getD])
        (fun j hj=>by rw[hlen] at hj;exact j5 _ (by omega))
        (fun i e c a hi hc=>by
         have aj:i<len:=by have:=(Ac.1 hi).1;omega
         rw[A8 aj,BG] at hi;have:=(j4 _ _ _ _ hi hc).mono (A':=fun b=>A b∨σ s'=some b) (fun _ h=>.inl h) (fun _ _=>rfl)
         rwa [Bb,A5] at this)
       rwa [hlen] at this
   ·exact .of0 (.bot _)
  ·rename_i ah;exact gen (by simp[AV.refs,Ne.symm ah])
 ·rename_i s' z i off;split
  ·rename_i e;subst e;split
   ·rename_i hz;subst hz;split
    ·rename_i cs an;obtain⟨b,rfl,k1⟩:=hv.pe_inv;rcases lu with⟨j1,_⟩|⟨b',vs,bT,j1,j2,j3,j5,j4⟩
     ·rw[j1] at k1;cases k1
     ·obtain rfl:b'=b:=Option.some.inj (j1.symm.trans k1);have aT:cs.length=z:=k0 _ (Ae an);have hi:i<es.length:=(Ac.1 an).1;have aF:(i+1)*z<=es.length*z:=AH _ hi;rw[Bb] at aF;exact .of0 (.ep (.inr k1) (u:=fun j=>vs.getD (i*z+j) undef) (fun j hj=>by
       have:i*z+j<vs.size:=by omega
       simp[World.cell?,j2,this,Array.getD]) fun j x hj=>(j4 _ _ _ _ an hj).mono (fun _ h=>.inl h) (fun _ _=>rfl))
    ·exact .of0 (.bot _)
   ·exact .of0 (.bot _)
  ·rename_i ah;exact gen (by simp[AV.refs,Ne.symm ah])
 ·split
  ·exact .of0 (.bot _)
  ·rename_i hc;exact gen (by simpa using hc)
def zlq (s z0:Nat) (es:List (List AV)) (x:AV) (s':Nat) (h:s'∈(Ab.frz s z0 es x).refs):s'∈x.refs∧s'≠s:=by
 unfold Ab.frz at h;split at h
 ·split at h
  ·split at h<;>simp[AV.refs] at h
  ·rename_i ah;simp[AV.refs] at h;subst h;exact⟨by simp[AV.refs],ah⟩
 ·split at h
  ·split at h
   ·split at h<;>simp[AV.refs] at h
   ·simp[AV.refs] at h
  ·rename_i ah;simp[AV.refs] at h;subst h;exact⟨by simp[AV.refs],ah⟩
 ·split at h
  ·simp[AV.refs] at h
  ·rename_i hc;exact⟨h,fun e=>by subst e;simp at hc;exact hc h⟩
def SRel.freeze (h:SRel S A0 O w0 A σ w st tm) (s:Nat) (dF:zcj s=false):∃A' σ',SRel S A0 O w0 A' σ' w (st.freeze s) tm∧(∀b,A b->A' b)∧(∀b,eJ st.hp s=true->σ s=some b->A' b) ∧
  (∀s',s'≠s->σ' s'=σ s'∧eJ (st.freeze s).hp s'=eJ st.hp s'):=by
 unfold ASt.freeze;split
 ·rename_i z es hb
  refine⟨fun b=>A b∨σ s=some b,fun k=>if k=s then none else σ k,⟨fun k=>VR.frz h hb (h.fr k),fun s' blk ae => ?_,fun k s' ae => ?_,fun s' cs ae eU bG => ?_,fun s' b ae => ?_,fun s1 s2 b h1 h2 => ?_,
   fun b aw => ?_,fun b aw => ?_,h.keep,h.kp.of fun s' ae hn => ?_,h.Olt⟩,fun b hb=>.inl hb,fun b _ hs=>.inr hs,fun s' ah=>⟨by simp[ah], ?_⟩⟩
  ·dsimp only at ae
   split at ae
   ·cases ae
   ·rename_i ah;simp only[Ag] at ae;obtain⟨b0,cZ,rfl⟩:=ae;have hr:=h.hp s' b0 cZ;cases b0 with
    | var cs =>obtain⟨b,vs,el,h1,h2,h3,h4⟩:=hr;refine⟨b,vs,el,by simp[ah,h1],h2,by simpa using h3,fun i x hi => ?_⟩;simp only[As,Ag] at hi;obtain⟨y,hy,rfl⟩:=hi;exact VR.frz h hb (h4 i y hy)
    | arr z' bj =>exact hr.mono (fun _ h=>.inl h) (fun _ _=>rfl) (by simp[ah]) (fun _ _=>rfl) (by simp[Blk.refs])
  ·obtain⟨k1,k2⟩:=zlq _ _ _ _ _ ae;have:=h.dang k s' k1;simp[k2,this]
  ·dsimp only at ae
   split at ae
   ·cases ae
   ·simp only[Ag] at ae;obtain⟨b0,cZ,he⟩:=ae;cases b0 with
    | var iy =>simp only[frzB,Blk.var.injEq] at he;subst he;rw[zh] at bG;obtain⟨x,bq,iE⟩:=bG;rw[Al] at bq;obtain⟨y,hy,rfl⟩:=bq;obtain⟨k1,k2⟩:=zlq _ _ _ _ _ iE;have:=h.dangV s' iy cZ eU (zh.2 ⟨y,hy,k1⟩);simp[k2,this]
    | arr z' bj=>simp[frzB] at he
  ·split at ae
   ·cases ae
   ·rename_i ah;obtain⟨k1,k2,k3,k4⟩:=h.dom s' b ae;exact⟨by simp[ah,k1],k2,fun hh=>hh.elim k3 fun e=>ah (h.inj s' s b ae e),k4⟩
  ·split at h1
   ·cases h1
   ·split at h2
    ·cases h2
    ·exact h.inj s1 s2 b h1 h2
  ·rcases aw with aw|aw
   ·exact h.Alt b aw
   ·exact (h.dom s b aw).2.1
  ·rcases aw with aw|aw
   ·exact h.Asub b aw
   ·exact .inr (h.dom s b aw).2.2.2
  ·have ah:s'≠s:=fun e=>by rw[e,dF] at ae;cases ae
   exact⟨⟨by simp[ah],fun b cs el _ hb=>⟨cs,hb,rfl⟩⟩,fun z es he=>⟨es,by simp[ah,he,frzB],rfl⟩⟩
  ·simp only[eJ,if_neg ah];cases hq:st.hp s' with
   | none=>simp
   | some b0=>cases b0<;>simp[frzB]
 ·rename_i hn;refine⟨A,σ,h,fun _ h=>h,fun b hb _ => ?_,fun s' _=>⟨rfl,rfl⟩⟩;unfold eJ at hb;split at hb
  ·rename_i z es he;exact absurd he (hn z es)
  ·cases hb
def SRel.freezeL:∀(l:List Nat) {A:Nat->Prop} {σ:Nat->Option Nat} {st:ASt},SRel S A0 O w0 A σ w st tm->zfy l=true->∃A' σ',SRel S A0 O w0 A' σ' w (st.freezeL l) tm∧(∀b,A b->A' b) ∧
  (∀s∈l,∀b,eJ st.hp s=true->σ s=some b->A' b)
 | [],A,σ,st,h,_=>⟨A,σ,h,fun _ h=>h,by simp⟩
 | s::r,A,σ,st,h,hl=>by
  simp only[zfy,Bg,Ai,AU] at hl;obtain⟨A1,σ1,h1,m1,k1,k2⟩:=h.freeze s hl.1;obtain⟨A2,σ2,h2,m2,k3⟩:=SRel.freezeL r h1 hl.2;refine⟨A2,σ2,h2,fun b hb=>m2 b (m1 b hb),fun s' ae b ha hs => ?_⟩;by_cases e:s'=s
  ·subst e;exact m2 b (k1 b ha hs)
  ·obtain⟨e1,e2⟩:=k2 s' e;rcases Ar.1 ae with ae|ae
   ·exact absurd ae e
   ·exact k3 s' ae b (e2.trans ha) (e1.trans hs)
end
end
section
open Go Go.RowKit
section
variable {S:Seat} {A0:Nat->Prop} {O:Hnd} {w0:World} {A:Nat->Prop} {σ:Nat->Option Nat} {w:World} {st aa:ASt} {tm:Array Value} {df:List Deferred} {o:Oper} {v:AV} {d:Nat}
def ziz (h:SRel S A0 O w0 A σ w st tm) (hd:st.hp d=none) {cs:List AV} {y:Value} {e:TypeId} (hr:(execOp (Act.eval ⟨tm,df⟩) o).run S.P w=.ok (.value (.pointer (some ⟨w.heap.size,0,none⟩))) (w.alloc (.cells y.cells e)))
  (h1:cs.length=y.cells.size) (h2:∀(i:Nat) (a:AV),cs[i]? = some a->VR S A σ w a (y.cells.getD i undef)) (h3:∀s∈AV.refsL cs,st.hp s≠none) :
  w7 S A0 O w0 w tm df o (.pv d 0) (st.setH d (some (.var cs))):=by
 refine⟨_,_,A,_,hr,h.newBlk (vs:=y.cells) (el:=e) (blk:=.var cs) hd (by rw[Blk.refs];exact h3) ?_,.inl ⟨_,rfl,.pv (qD _ _ _),fun s hs => ?_⟩⟩
 ·refine⟨w.heap.size,y.cells,e,qD _ _ _,heap_alloc_new w _,by omega,fun i x hx=>(h2 i x hx).mono (fun _ h=>h) (fun b hb=>heap_alloc_old w _ b (h.Alt b hb)) fun s hs => ?_⟩;have ae:=h3 s (zh.2 ⟨x,Ae hx,hs⟩);have ah:s≠d:=fun e=>ae (e▸hd);exact⟨gH _ _ _ ah,fun b cs bT hb hc=>⟨cs,by rw[heap_alloc_old w _ b (h.dom s b hb).2.1];exact hc,rfl⟩⟩
 ·rw[AV.refs,Ah] at hs;subst hs;simp[ASt.setH,upd]
def op_box (h:SRel S A0 O w0 A σ w st tm) {e:TypeId} {x:Operand} {x':AOpd} (ho:o.op=.box e x) (h1:qB S x=some x') (ha:aop (.box x') d st=some (v,aa)):w7 S A0 O w0 w tm df o v aa:=by
 have g1:=h.ev (df:=df) h1;simp only[aop] at ha;split at ha
 ·rename_i cs an hd;simp only[DM,DN] at ha;obtain⟨rfl,rfl⟩:=ha;obtain⟨k1,k2,k3,k4⟩:=g1.rel.cells an;exact ziz h hd (y:=Act.eval ⟨tm,df⟩ x) (e:=e) (by simp[execOp,ho,Instr.box,newVar,newRow]) k1 k2 fun s hs=>g1.dang s ((k4 s).1 hs)
 ·cases ha
def yt {P:Program} {t:TypeId} {l:List Value} (h:zhp P t=some l):∃i z,P.info? t=some i∧i.zero=some z∧z.cells.toList=l∧z.cells.size=i.size∧0<i.size∧∀x∈l,zaB x=true:=by
 unfold zhp at h;split at h
 ·rename_i i hi;split at h
  ·rename_i z hz;split at h
   ·rename_i hc;cases h;exact⟨i,z,hi,hz,rfl,hc.1,hc.2.1,Af.1 hc.2.2⟩
   ·cases h
  ·cases h
 ·cases h
def zkI {z:Value} (i:Nat) (a:AV) (hi:(z.cells.toList.map AV.v)[i]? = some a):VR S A σ w a (z.cells.getD i undef):=by simp only[As,Ag] at hi;obtain⟨y,hy,rfl⟩:=hi;have:z.cells.getD i undef=y:=(by rw[Ao];simp only[BK] at hy;rw[hy];rfl);rw[this];exact .of0 (.v y)
def refsL_v (l:List Value):AV.refsL (l.map AV.v)=[]:=by
 induction l with
 | nil=>rfl
 | cons x r ih=>simp[AV.refsL,AV.refs,ih]
def op_alloc (h:SRel S A0 O w0 A σ w st tm) {e:TypeId} {l:List Value} (ho:o.op=.alloc e) (hz:zhp S.P e=some l) (ha:aop (.alloc l) d st=some (v,aa)):w7 S A0 O w0 w tm df o v aa:=by
 obtain⟨i,z,k1,k2,rfl,k4,k5,_⟩:=yt hz;simp only[aop] at ha;split at ha
 ·rename_i hd;simp only[DM,DN] at ha;obtain⟨rfl,rfl⟩:=ha;exact ziz h hd (y:=z) (e:=e) (by simp[execOp,ho,Instr.alloc,zeroValue,typeInfo,k1,k2,newVar,newRow]) (by simp) (fun i a hi=>zkI i a hi) (by rw[refsL_v];simp)
 ·cases ha
def jV {cs new:List AV} {off:Nat} (h:off+new.length<=cs.length):(qU cs off new).length=cs.length:=by simp[qU];omega
def yc {cs new:List AV} {off:Nat} (h:off+new.length<=cs.length) (i:Nat):(qU cs off new)[i]? = if off<=i∧i<off+new.length then new[i-off]? else cs[i]?:=by
 have ht:(cs.take off).length=off:=by simp;omega
 unfold qU;by_cases h1:i<off
 ·rw[if_neg (by omega),AP,AG (by omega),A8 h1]
 ·by_cases h2:i<off+new.length
  ·rw[if_pos (by omega),AP,AM (by omega),ht,AG (by omega)]
  ·rw[if_neg (by omega),AM (by simp;omega),BG];congr 1;simp;omega
def zf_list (off:Nat):∀(l:List Value) (k:Nat) (arr:Array Value),off+k+l.length<=arr.size ->
  ((l.zipIdx k).foldl (fun cs p=>cs.setIfInBounds (off+p.2) p.1) arr).size=arr.size ∧
  ∀i,((l.zipIdx k).foldl (fun cs p=>cs.setIfInBounds (off+p.2) p.1) arr).getD i undef=if off+k<=i∧i<off+k+l.length then l.getD (i-(off+k)) undef else arr.getD i undef
 | [],k,arr,_=>by
  refine⟨rfl,fun i => ?_⟩;simp only[List.zipIdx_nil,Dv,BI];rw[if_neg (by omega)]
 | x::r,k,arr,h=>by
  simp only[Ax] at h;obtain⟨h1,h2⟩:=zf_list off r (k+1) (arr.setIfInBounds (off+k) x) (by simp;omega);simp only[List.zipIdx_cons,Be];refine⟨by rw[h1];simp,fun i => ?_⟩;rw[h2 i,wd _ _ _ _ _ (by omega)];simp only[Ax];by_cases e1:off+(k+1)<=i∧i<off+(k+1)+r.length
  ·rw[if_pos e1,if_pos (by omega),show i-(off+k)=(i-(off+(k+1)))+1 by omega];rfl
  ·rw[if_neg e1];by_cases e2:i=off+k
   ·subst e2;rw[if_pos rfl,if_pos (by omega)];simp
   ·rw[if_neg e2,if_neg (by omega)]
def zf_arr (off:Nat) (vs arr:Array Value) (h:off+vs.size<=arr.size) :
  (vs.zipIdx.foldl (fun cs (c,j)=>cs.setIfInBounds (off+j) c) arr).size=arr.size ∧
  ∀i,(vs.zipIdx.foldl (fun cs (c,j)=>cs.setIfInBounds (off+j) c) arr).getD i undef=if off<=i∧i<off+vs.size then vs.getD (i-off) undef else arr.getD i undef:=by
 have:=zf_list off vs.toList 0 arr (by simpa using h);rw[←Array.foldl_toList,Array.toList_zipIdx];refine⟨this.1,fun i => ?_⟩;have h2:=this.2 i;simp only[BF,Bw] at h2;refine h2.trans ?_;congr 1;simp[Ao,List.getD]
def fill_ok {R:AV->Value->Prop} (place:Nat->Option (Nat×Nat)):∀(ps:List (Nat×List AV)) (zero res:List AV) (rs:List (Nat×Value)) (arr:Array Value),
  zkb zero ps=some res->zero.length=arr.size->(∀(i:Nat) (a:AV),zero[i]? = some a->R a (arr.getD i undef))->ps.length=rs.length ->
  (∀(j:Nat) (p:Nat×List AV) (r:Nat×Value),ps[j]? = some p->rs[j]? = some r->place r.1=some (p.1,p.2.length)∧p.2.length=r.2.cells.size∧∀(i:Nat) (a:AV),p.2[i]? = some a->R a (r.2.cells.getD i undef)) ->
  ∃aE,Instr.fill place arr rs=some aE∧res.length=aE.size∧∀(i:Nat) (a:AV),res[i]? = some a->R a (aE.getD i undef)
 | [],zero,res,rs,arr,hf,hl,hr,hn,_=>by
  cases rs with
  | nil=>simp only[zkb,DM] at hf;subst hf;exact⟨arr,rfl,hl,hr⟩
  | cons=>simp at hn
 | (off,cs)::ps,zero,res,rs,arr,hf,hl,hr,hn,hp=>by
  cases rs with
  | nil=>simp at hn
  | cons r rs =>
   obtain⟨k1,k2,k3⟩:=hp 0 (off,cs) r rfl rfl;simp only at k1 k2 k3;simp only[zkb] at hf;split at hf
   ·rename_i hle;obtain⟨z1,z2⟩:=zf_arr off r.2.cells arr (by omega);obtain⟨aE,f1,f2,f3⟩:=fill_ok place ps (qU zero off cs) res rs _ hf (by rw[jV hle,z1];exact hl) (fun i a hi=>by
     rw[yc hle] at hi;rw[z2];split at hi
     ·rename_i hc;rw[if_pos (by omega)];exact k3 _ _ hi
     ·rename_i hc;rw[if_neg (by omega)];exact hr _ _ hi) (by simpa using hn) (fun j p r hj hk=>hp (j+1) p r (by simpa using hj) (by simpa using hk))
    refine⟨aE, ?_,f2,f3⟩;obtain⟨ri,rv⟩:=r;have k2':cs.length=rv.cells.size:=k2;simp only[Instr.fill,k1];rw[if_neg (by simp;omega)];exact f1
   ·cases hf
def zD {α β:Type} {f:α->Option β}:∀ {xs:List α} {ys:List β},zd f xs=some ys->xs.length=ys.length∧∀(i:Nat) (y:β),ys[i]? = some y->∃x,xs[i]? = some x∧f x=some y
 | [],ys,h=>by simp only[zd,DM] at h;subst h;exact⟨rfl,by simp⟩
 | x::xs,ys,h=>by
  simp only[zd] at h;split at h
  ·rename_i y bU hy dh;cases h;obtain⟨h1,h2⟩:=zD dh;refine⟨by simp[h1],fun i y' hi => ?_⟩;cases i with
   | zero=>simp at hi;subst hi;exact⟨x,rfl,hy⟩
   | succ i=>simp at hi;obtain⟨x',h3,h4⟩:=h2 i y' hi;exact⟨x',by simpa using h3,h4⟩
  ·cases h
def zbg {P:Program}:∀(fs:List Field) (l:List Nat),zd (fun (f:Field)=>zau P f.type) fs=some l ->
  ∃places,fs.mapM (fun f=>(P.info? f.type).map fun i=>(f.offset,i.size))=some places∧∀(j:Nat) (f:Field) (n:Nat),fs[j]? = some f->zau P f.type=some n->places[j]? = some (f.offset,n)
 | [],l,_=>⟨[],rfl,by simp⟩
 | f::fs,l,h=>by
  simp only[zd] at h;split at h
  ·rename_i y ys hy dh;obtain⟨places,h1,h2⟩:=zbg fs ys dh;obtain⟨i,hi,rfl⟩:∃i,P.info? f.type=some i∧i.size=y:=by simpa[zau] using hy
   refine⟨(f.offset,i.size)::places,by simp[Du,hi,h1],fun j f' n hj hn => ?_⟩;cases j with
   | zero=>simp at hj;subst hj;simp[zau,hi] at hn;subst hn;rfl
   | succ j=>simp at hj;simpa using h2 j f' n hj hn
  ·cases h
def op_build (h:SRel S A0 O w0 A σ w st tm) {t:TypeId} {ps:Array (Nat×Operand)} {fs:Array Field} {zero:List Value} {l:List (Nat×Nat×AOpd)} {szs:List Nat} (ho:o.op=.build t ps) (hu:S.P.underlying t=some (.struct fs))
  (hz:zhp S.P t=some zero) (hl:zd (fun (p:Nat×Operand)=>match iA S.P t p.1,qB S p.2 with|some f,some x=>(match zau S.P f.type with|some n=>some (f.offset,n,x)|none=>none)|_,_=>none) ps.toList=some l)
  (hs:zd (fun (f:Field)=>zau S.P f.type) fs.toList=some szs) (ha:aop (.build zero l) d st=some (v,aa)):w7 S A0 O w0 w tm df o v aa:=by
 obtain⟨i,z,k1,k2,rfl,k4,k5,_⟩:=yt hz;obtain⟨places,p1,p2⟩:=zbg _ _ hs;simp only[aop] at ha;split at ha
 ·rename_i pcs fL;split at ha
  ·rename_i res aD;simp only[DM,DN] at ha;obtain⟨rfl,rfl⟩:=ha;obtain⟨a1,a2⟩:=zD hl;obtain⟨b1,b2⟩:=zD fL
   have main:=fill_ok (R:=fun a x=>Got S A σ w st a x) (fun x=>places[x]?) pcs (z.cells.toList.map AV.v) res (ps.toList.map fun p=>(p.1,Act.eval ⟨tm,df⟩ p.2)) z.cells aD (by simp)
    (fun i a hi=>⟨zkI i a hi,fun s hs=>by have:=zh.2 ⟨a,Ae hi,hs⟩;rw[refsL_v] at this;cases this⟩) (by rw[Aq];omega)
    (fun j p r hj hr=>by
     obtain⟨q,hq,bP⟩:=b2 j p hj;obtain⟨q0,gP,en⟩:=a2 j q hq;simp only[As,gP,AQ,DM] at hr;subst hr;split at en
     ·rename_i f x hf hx;split at en
      ·rename_i n hn;cases en;simp only at bP;split at bP
       ·rename_i cs an;split at bP
        ·rename_i hlen;cases bP;have g:=h.ev (df:=df) hx;obtain⟨c1,c2,c3,c4⟩:=g.rel.cells an;refine⟨?_,c1,fun i a hi=>⟨c2 i a hi,fun s hs=>g.dang s ((c4 s).1 (zh.2 ⟨a,Ae hi,hs⟩))⟩⟩;have hfj:fs.toList[q0.1]? = some f:=by simpa[iA,hu] using hf
         simp only[hlen];exact p2 _ _ _ hfj hn
        ·cases bP
       ·cases bP
      ·cases en
     ·cases en)
   obtain⟨aE,f1,f2,f3⟩:=main;refine .same h (rv:=.agg aE) ?_ ⟨.agg f2 fun i a hi=>(f3 i a hi).rel,fun s hs => ?_⟩
   ·have hb:S.P.built t (ps.map fun (i,x)=>(i,Act.eval ⟨tm,df⟩ x)).toList=some aE:=(by simp only[Program.built,k1,hu,k2,p1];simpa using f1);have:=run_build (P:=S.P) w t _ aE hb;simp[execOp,ho,this]
   ·rw[AV.refs,zh] at hs;obtain⟨x,hx,hs⟩:=hs;obtain⟨i,hi⟩:=AA.1 hx;exact (f3 i x hi).dang s hs
  ·cases ha
 ·cases ha
end
end
section
open Go Go.RowKit
section
variable {S:Seat} {A0:Nat->Prop} {O:Hnd} {w0:World} {A:Nat->Prop} {σ:Nat->Option Nat} {w:World} {st aa:ASt} {tm:Array Value} {df:List Deferred} {o:Oper} {v:AV} {d:Nat}
structure RowRel (R:AV->Value->Prop) (z:Nat) (es:List (List AV)) (arr:Array Value):Prop where
 size:arr.size=es.length*z
 each:∀e∈es,e.length=z
 rel:∀(i:Nat) (e:List AV) (c:Nat) (x:AV),es[i]? = some e->e[c]? = some x->R x (arr.getD (i*z+c) undef)
 one:∀j,j<arr.size->(arr.getD j undef).oneCell'=true
def ziM {i c z n:Nat} (hi:i<n) (hc:c<z):i*z+c<n*z:=by have:(i+1)*z<=n*z:=AH _ hi;rw[Bb] at this;omega
def ziK {i j c z:Nat} (h1:j*z<=i*z+c) (h2:i*z+c<j*z+z) (hc:c<z):i=j:=by
 rcases Nat.lt_trichotomy i j with h|h|h
 ·have:(i+1)*z<=j*z:=AH _ h;rw[Bb] at this;omega
 ·exact h
 ·have:(j+1)*z<=i*z:=AH _ h;rw[Bb] at this;omega
def zcG {R:AV->Value->Prop} {z:Nat}:∀(ps:List (Nat×List AV)) (es:List (List AV)) (rs:List (Nat×Value)) (arr:Array Value),RowRel R z es arr->ps.length=rs.length ->
  (∀(j:Nat) (p:Nat×List AV) (r:Nat×Value),ps[j]? = some p->rs[j]? = some r->r.1=p.1∧p.1<es.length∧p.2.length=z∧p.2.length=r.2.cells.size∧(∀(i:Nat) (a:AV),p.2[i]? = some a->R a (r.2.cells.getD i undef)) ∧
   ∀x∈r.2.cells.toList,x.oneCell'=true) ->
  ∃aE,Instr.fill (fun i=>some (i*z,z)) arr rs=some aE∧RowRel R z (ps.foldl (fun es p=>es.set p.1 p.2) es) aE
 | [],es,rs,arr,h,hn,_=>by
  cases rs with
  | nil=>exact⟨arr,rfl,h⟩
  | cons=>simp at hn
 | (k,cs)::ps,es,rs,arr,h,hn,hp=>by
  cases rs with
  | nil=>simp at hn
  | cons r rs =>
   obtain⟨ri,rv⟩:=r;obtain⟨k1,k2,k3,k4,k5,k6⟩:=hp 0 (k,cs) (ri,rv) rfl rfl;simp only at k1 k2 k3 k4 k5 k6;subst k1;have hle:ri*z+rv.cells.size<=arr.size:=(by rw[h.size,←k4,k3];have:(ri+1)*z<=es.length*z:=AH _ k2;rw[Bb] at this;omega);obtain⟨z1,z2⟩:=zf_arr (ri*z) rv.cells arr hle;have h':RowRel R z (es.set ri cs) (rv.cells.zipIdx.foldl (fun cs (c,j)=>cs.setIfInBounds (ri*z+j) c) arr):=by
    refine⟨by rw[z1,h.size];simp,fun e he => ?_,fun i e c x hi hc => ?_,fun j hj => ?_⟩
    ·rcases C1 he with he|rfl
     ·exact h.each e he
     ·exact k3
    ·rw[z2];by_cases pj:ri=i
     ·subst pj;rw[CB k2] at hi;cases hi;have aT:=(Ac.1 hc).1;rw[if_pos (by omega),show ri*z+c-ri*z=c by omega];exact k5 c x hc
     ·have ah:=pj;rw[Cr pj] at hi;have qH:=h.each e (Ae hi);have aT:=(Ac.1 hc).1;rw[if_neg (fun hh=>ah (ziK hh.1 (by omega) (by omega)).symm)];exact h.rel i e c x hi hc
    ·rw[z2];rw[z1] at hj;by_cases hc:ri*z<=j∧j<ri*z+rv.cells.size
     ·rw[if_pos hc];apply k6;have:j-ri*z<rv.cells.size:=by omega
      rw[Dy];simp[Array.getD,this]
     ·rw[if_neg hc];exact h.one j hj
   obtain⟨aE,f1,f2⟩:=zcG ps (es.set ri cs) rs _ h' (by simpa using hn) (fun j p r hj hk=>by simpa using hp (j+1) p r (by simpa using hj) (by simpa using hk));refine⟨aE, ?_,f2⟩;simp only[Instr.fill];rw[if_neg (by simp;omega)];exact f1
def zjx {R:AV->Value->Prop} {z:Value} {n:Nat} (hs:0<z.cells.size) (hR:∀x∈z.cells.toList,R (.v x) x) (h1:∀x∈z.cells.toList,x.oneCell'=true) :
  RowRel R z.cells.size (List.replicate n (z.cells.toList.map AV.v)) ((Array.range (n*z.cells.size)).map (z.cells[· % z.cells.size]!)):=by
 have get:∀j,j<n*z.cells.size->((Array.range (n*z.cells.size)).map (z.cells[· % z.cells.size]!)).getD j undef=z.cells[j%z.cells.size]'(CG _ hs):=(by intro j hj;have hm:=CG j hs;simp[Array.getD,hj,getElem!_pos,hm]);refine⟨by simp,fun e he => ?_,fun i e c x hi hc => ?_,fun j hj => ?_⟩
 ·rw[List.mem_replicate] at he;rw[he.2];simp
 ·rw[B3] at hi;split at hi
  ·rename_i bJ;cases hi;have aT:=(Ac.1 hc).1;simp only[Aq,Bw] at aT;simp only[As,Ag] at hc;obtain⟨y,hy,rfl⟩:=hc;rw[get _ (ziM bJ aT)];have pD:(i*z.cells.size+c)%z.cells.size=c:=by rw[Ct,Nat.mul_add_mod];exact CH aT
   have hyv:z.cells[(i*z.cells.size+c)%z.cells.size]'(CG _ hs)=y:=by
    have:z.cells[c]? = some y:=by simpa using hy
    obtain⟨h2,h3⟩:=Bs.1 this;simp only[pD,h3]
   rw[hyv];exact hR y (Ae hy)
  ·cases hi
 ·simp only[Array.size_map,Array.size_range] at hj;rw[get j hj];exact h1 _ (by rw[Dy];exact Array.getElem_mem _)
def RowRel.blk {z:Nat} {es:List (List AV)} {arr:Array Value} {w':World} {σ':Nat->Option Nat} {s b:Nat} {el:TypeId} (h:RowRel (VR0 S A w') z es arr) (hσ:σ' s=some b) (hb:w'.heap[b]? = some (.cells arr el (0,0))) :
  zas S A σ' w' s (.arr z es) :=
 ⟨h.each,.inr ⟨b,arr,el,hσ,hb,by rw[h.size];exact Az _,fun j hj=>h.one j (by rw[h.size];exact hj),h.rel⟩⟩
def RowRel.imp {R R':AV->Value->Prop} {z:Nat} {es:List (List AV)} {arr:Array Value} (h:RowRel R z es arr) (hr:∀x v,R x v->R' x v):RowRel R' z es arr :=
 ⟨h.size,h.each,fun i e c x hi hc=>hr _ _ (h.rel i e c x hi hc),h.one⟩
def zbo {x:Value} (h:zaB x=true):x.oneCell'=true:=by cases x<;>simp_all[zaB,Value.oneCell']
def yw (h:SRel S A0 O w0 A σ w st tm) {A':Nat->Prop} (hA:∀b,A b->A' b) {x y:AV} {v:Value} (hv:VR S A σ w x v) (hs:qo st.hp x=some y) (hr:∀s∈x.refs,∀b,σ s=some b->A' b) :
  VR0 S A' w y v∧∀s∈x.refs,eJ st.hp s=true:=by
 unfold qo at hs;split at hs
 ·rename_i s z i off;split at hs
  ·rename_i z' es hb;split at hs
   ·rename_i hz;split at hs
    ·rename_i cs an;cases hs;have:=VR.frz h hb hv;simp only[Ab.frz,if_true,hz,an] at this;refine⟨?_,fun s' ae=>by rw[AV.refs,Ah] at ae;subst ae;simp[eJ,hb]⟩;cases this with
     | of0 h0=>exact h0.mono (fun b (hb:A b∨σ s=some b)=>hb.elim (hA b) (hr s (by simp[AV.refs]) b)) (fun _ _=>rfl)
    ·cases hs
   ·cases hs
  ·cases hs
 ·rename_i s z off len;split at hs
  ·rename_i z' es hb;split at hs
   ·rename_i hz;cases hs;have:=VR.frz h hb hv;simp only[Ab.frz,if_true,hz.1,hz.2,and_self] at this;refine⟨?_,fun s' ae=>by rw[AV.refs,Ah] at ae;subst ae;simp[eJ,hb]⟩;cases this with
    | of0 h0=>exact (hz.1▸h0).mono (fun b (hb:A b∨σ s=some b)=>hb.elim (hA b) (hr s (by simp[AV.refs]) b)) (fun _ _=>rfl)
   ·cases hs
  ·cases hs
 ·cases hs
 ·split at hs
  ·rename_i he;cases hs;have ik:x.refs=[]:=by simpa using he
   exact⟨(hv.to0 ik).mono hA (fun _ _=>rfl),by rw[ik];simp⟩
  ·cases hs
def zdi:∀(l:List Nat) {st:ASt} {d:Nat},st.hp d=none->(st.freezeL l).hp d=none
 | [],_,_,h=>h
 | s::r,st,d,h=>by
  refine zdi r ?_;unfold ASt.freeze;split
  ·simp[h]
  ·exact h
def yu {P:Program} {t:TypeId} {p:TypeId×Nat} (h:zfG P t=some p):P.underlying t=some (.slice p.1)∧∃i,P.info? p.1=some i∧i.size=p.2∧0<i.size∧i.size<=128∧i.bytes<=zmz i.size:=by
 unfold zfG at h;split at h
 ·rename_i e hu;split at h
  ·rename_i i hi;split at h
   ·rename_i hc;cases h;exact⟨hu,i,hi,rfl,hc.1,hc.2.1,hc.2.2⟩
   ·cases h
  ·cases h
 ·cases h
def run_bsl {P:Program} (w:World) (t e:TypeId) (len:Nat) (parts:Array (Nat×Value)) (cells:Array Value) (ie:TypeInfo) (z:Value)
  (hu:P.underlying t=some (.slice e)) (tQ:P.info? e=some ie) (hz:ie.zero=some z) (iH:¬len*ie.size > 2 ^ 24)
  (h:Instr.fill (fun i=>some (i*ie.size,ie.size)) ((Array.range (len*ie.size)).map (z.cells[· % z.cells.size]!)) parts.toList=some cells) :
  (Instr.buildSlice t len parts).run P w=.ok (.slice (some ⟨w.heap.size,0,none⟩) len len) (w.alloc (.cells cells e)):=by
 by_cases aO:len*ie.size=0
 ·rw[aO] at h;have h0:(Array.range 0).map (z.cells[· % z.cells.size]!)=#[]:=by rw[Array.map_eq_empty_iff];exact CI (by simp)
  rw[h0] at h;simp[Instr.buildSlice,run_underlying hu,Go.sizeOf,typeInfo,tQ,aO,newRow];have h2:∀f:Nat->Value,Array.map f (Array.range 0)=#[]:=fun f=>by rw[Array.map_eq_empty_iff];exact CI (by simp)
  simp[h2,h]
 ·exact run_buildSlice w t e len parts cells ie z hu tQ hz iH aO h
def op_bslice (h:SRel S A0 O w0 A σ w st tm) {t e:TypeId} {i:TypeInfo} {z:Value} {len:Nat} {ps:Array (Nat×Operand)} {l:List (Nat×AOpd)} {frz:Bool} (ho:o.op=.buildSlice t len ps) (hu:S.P.underlying t=some (.slice e)) (hi:S.P.info? e=some i) (hz:i.zero=some z)
  (bW:z.cells.size=i.size) (aO:0<i.size) (cu:i.size<=128) (aK:∀x∈z.cells.toList,zaB x=true) (hl:zd (fun (p:Nat×Operand)=>if p.1<len then (qB S p.2).map fun x=>(p.1,x) else none) ps.toList=some l)
  (hlen:len<=4096) (ha:aop (.bslice frz i.size z.cells.toList len l) d st=some (v,aa)):w7 S A0 O w0 w tm df o v aa:=by
 simp only[aop] at ha;split at ha
 ·rename_i pcs hd fL;split at ha
  ·simp only[DM,DN] at ha;obtain⟨rfl,rfl⟩:=ha;obtain⟨A1,σ1,h1,m1,m2⟩:=h.freezeL (qX st l) (by
    rename_i dG;rcases dG with dG|dG
    ·exact dG.2
    ·rw[dG];rfl)
   obtain⟨a1,a2⟩:=zD hl;obtain⟨b1,b2⟩:=zD fL;have zr:=zjx (R:=VR0 S A1 w) (z:=z) (n:=len) (by omega) (fun x _=>.v x) (fun x hx=>zbo (aK x hx));rw[bW] at zr
   obtain⟨aE,f1,f2⟩:=zcG (R:=VR0 S A1 w) (z:=i.size) pcs (List.replicate len (z.cells.toList.map AV.v)) (ps.toList.map fun p=>(p.1,Act.eval ⟨tm,df⟩ p.2)) _ zr (by rw[Aq];omega)
    (fun j p r hj hr=>by
     obtain⟨q,hq,bP⟩:=b2 j p hj;obtain⟨q0,gP,en⟩:=a2 j q hq;simp only[As,gP,AQ,DM] at hr;subst hr;split at en
     ·rename_i aj;simp only[Ag] at en;obtain⟨x,hx,rfl⟩:=en;split at bP
      ·rename_i iy ki;split at bP
       ·rename_i cs an;split at bP
        ·rename_i aT;cases bP;have g:=h.ev (df:=df) hx;obtain⟨c1,c2,c3,c4⟩:=g.rel.cells ki;obtain⟨d1,d2⟩:=zD an;refine⟨rfl,by simpa using aj,aT,by simp only;omega,fun i a hi => ?_,c3⟩;obtain⟨x0,aC,aH⟩:=d2 i a hi;have gw:∀s∈x0.refs,s∈qX st l:=fun s hs=>(by unfold qX;rw[zh];exact⟨st.ev x,Al.2 ⟨_,Ae hq,rfl⟩,(c4 s).1 (zh.2 ⟨x0,Ae aC,hs⟩)⟩);have arrs:=(yw h (A':=fun _=>True) (fun _ _=>trivial) (c2 i x0 aC) aH (fun _ _ _ _=>trivial)).2;exact (yw h m1 (c2 i x0 aC) aH fun s hs b hb=>m2 s (gw s hs) b (arrs s hs) hb).1
        ·cases bP
       ·cases bP
      ·cases bP
     ·cases en)
   have ax:=run_bsl (P:=S.P) w t e len (ps.map fun (i,x)=>(i,Act.eval ⟨tm,df⟩ x)) aE i z hu hi hz (by
     have:len*i.size<=4096*128:=B7 hlen cu
     omega) (by rw[bW];simpa using f1)
   have nS:RowRel (VR0 S A1 (w.alloc (.cells aE e))) i.size (pcs.foldl (fun es p=>es.set p.1 p.2) (List.replicate len (z.cells.toList.map AV.v))) aE :=
    f2.imp fun x v hx=>hx.mono (fun _ h=>h) fun b hb=>heap_alloc_old w _ b (h1.Alt b hb)
   have dH:(pcs.foldl (fun es p=>es.set p.1 p.2) (List.replicate len (z.cells.toList.map AV.v))).length=len:=by
    have:∀(ps:List (Nat×List AV)) (es:List (List AV)),(ps.foldl (fun es p=>es.set p.1 p.2) es).length=es.length:=by
     intro ps
     induction ps with
     | nil=>intro es;rfl
     | cons p ps ih=>intro es;simp only[Be];rw[ih];simp
    rw[this];simp
   refine⟨.value (.slice (some ⟨w.heap.size,0,none⟩) len len),_,A1,_,by simp only[execOp,ho,Sem.run_bind,ax,Result.andThen_ok,Sem.run_pure],h1.newBlk (vs:=aE) (el:=e) (zdi _ hd) (by simp[Blk.refs]) (nS.blk (qD _ _ _) (heap_alloc_new w _)),.inl ⟨_,rfl, ?_,fun s hs => ?_⟩⟩
   ·refine .lsl (cs:=aE) (el:=e) (qD _ _ _) (Az _) (fun _=>by simp) (heap_alloc_new w _) (by rw[nS.size,dH];simp) (by unfold maxLen;omega)
   ·rw[AV.refs,Ah] at hs;subst hs;simp[ASt.setH,upd]
  ·cases ha
 ·cases ha
def op_mksl (h:SRel S A0 O w0 A σ w st tm) {t e:TypeId} {i:TypeInfo} {z:Value} {n c:Operand} {n' c':AOpd} (ho:o.op=.makeSlice t n c) (hu:S.P.underlying t=some (.slice e)) (hi:S.P.info? e=some i) (hz:i.zero=some z)
  (bW:z.cells.size=i.size) (aO:0<i.size) (cu:i.bytes<=zmz i.size) (aK:∀x∈z.cells.toList,zaB x=true) (h1:qB S n=some n') (h2:qB S c=some c')
  (ha:aop (.mksl i.size z.cells.toList n' c') d st=some (v,aa)):w7 S A0 O w0 w tm df o v aa:=by
 have g1:=h.ev (df:=df) h1;have g2:=h.ev (df:=df) h2;simp only[aop] at ha;split at ha
 ·rename_i m k hd eC eB;split at ha
  ·rename_i hc;obtain⟨c1,c2,c3⟩:=hc;rw[eC] at g1;rw[eB] at g2;have e1:=g1.rel.v_inv;have e2:=g2.rel.v_inv;simp only[DM,DN] at ha;obtain⟨rfl,rfl⟩:=ha;have hb:(i.bytes:Int)*k<=281474976710656:=by
    have h3:=(yz (n:=k.toNat) (z:=i.size) (b:=i.bytes) (by omega) cu).2.2;have h4:((i.bytes*k.toNat:Nat):Int)=(i.bytes:Int)*k:=by rw[Int.natCast_mul,CQ (by omega)]
    omega
   have hk:k<=6000000000000:=by have:=(yz (n:=k.toNat) (z:=i.size) (b:=i.bytes) (by omega) cu).1;omega
   have hr:=run_make (P:=S.P) w t e i z hu hi hz .i64 .i64 m k c1 c2 hb (by omega);have bX:(k.toNat:Int)=k:=CQ (by omega);have zr:∀w',RowRel (VR0 S A w') i.size (List.replicate k.toNat (z.cells.toList.map AV.v)) (madeCells z.cells (k.toNat*i.size)):=(by intro w';have:=zjx (R:=VR0 S A w') (z:=z) (n:=k.toNat) (by omega) (fun x _=>.v x) (fun x hx=>zbo (aK x hx));rw[bW] at this;unfold madeCells;rw[bW];exact this);have si:=zr (w.alloc (.cells (madeCells z.cells (k.toNat*i.size)) e));have aF:m.toNat*i.size<=(madeCells z.cells (k.toNat*i.size)).size:=by rw[size_madeCells];exact AH _ (by omega)
   have cY:zas S A (upd σ d (some w.heap.size)) (w.alloc (.cells (madeCells z.cells (k.toNat*i.size)) e)) d (.arr i.size (List.replicate m.toNat (z.cells.toList.map AV.v))):=by
    refine⟨fun e he => ?_,.inr ⟨w.heap.size,_,e,qD _ _ _,heap_alloc_new w _,by simpa using aF,fun j hj=>si.one j (by simp at hj;omega),fun a b cc x ha hb=>si.rel a b cc x ?_ hb⟩⟩
    ·rw[List.mem_replicate] at he;rw[he.2];simp[bW]
    ·rw[B3] at ha ⊢;split at ha
     ·rw[if_pos (by omega)];exact ha
     ·cases ha
   refine⟨.value (.slice (some ⟨w.heap.size,0,none⟩) m.toNat k.toNat),_,A,_,by simp only[execOp,ho,e1,e2,Sem.run_bind,hr,Result.andThen_ok,Sem.run_pure],h.newBlk (vs:=madeCells z.cells (k.toNat*i.size)) (el:=e) hd (by simp[Blk.refs]) cY,.inl ⟨_,rfl, ?_,fun s hs => ?_⟩⟩
   ·exact .lsl (qD _ _ _) (by omega) (fun _=>by simp) (heap_alloc_new w _) (by rw[size_madeCells];simp) (by unfold maxLen;omega)
   ·rw[AV.refs,Ah] at hs;subst hs;simp[ASt.setH,upd]
  ·cases ha
 ·cases ha
def op_store (h:SRel S A0 O w0 A σ w st tm) {t:TypeId} {a x:Operand} {a' x':AOpd} {z:Nat} (ho:o.op=.store t a x) (hs:zau S.P t=some z) (h1:qB S a=some a') (h2:qB S x=some x')
  (ha:aop (.store z a' x') d st=some (v,aa)):w7 S A0 O w0 w tm df o v aa:=by
 have g1:=h.ev (df:=df) h1;have g2:=h.ev (df:=df) h2;obtain⟨i,hi,rfl⟩:∃i,S.P.info? t=some i∧i.size=z:=by simpa[zau] using hs
 simp only[aop] at ha;split at ha
 ·rename_i new au;obtain⟨c1,c2,c3,c4⟩:=g2.rel.cells au;split at ha
  ·rename_i hnl
   have key:∀b off (old:Array Value) el,Act.eval ⟨tm,df⟩ a=.pointer (some ⟨b,off,none⟩)->w.heap[b]? = some (.cells old el (0,0))->off+i.size<=old.size ->
     ∃arr:Array Value,(execOp (Act.eval ⟨tm,df⟩) o).run S.P w=.ok .skip (w.setRow b arr)∧arr.size=old.size ∧
      ∀j,arr.getD j undef=if off<=j∧j<off+i.size then (Act.eval ⟨tm,df⟩ x).cells.getD (j-off) undef else old.getD j undef:=by
    intro b off old el e hb hle;have aT:(Act.eval ⟨tm,df⟩ x).cells.toList.length=i.size:=by simp;omega
    have hr:=run_storeCells_at S.P b off el (Act.eval ⟨tm,df⟩ x).cells.toList 0 old w hb (by omega) c3;simp only[BF] at hr;refine⟨(old.toList.take off++(Act.eval ⟨tm,df⟩ x).cells.toList++old.toList.drop (off+(Act.eval ⟨tm,df⟩ x).cells.toList.length)).toArray, ?_, ?_,fun j => ?_⟩
    ·have aF:(Act.eval ⟨tm,df⟩ x).cells.size=i.size:=by omega
     simp only[execOp,ho,Instr.storeAt,e,Instr.sureAddr,storeVar,Go.sizeOf,typeInfo,Sem.run_bind,Sem.run_pure,Result.andThen_ok,run_program,hi,aF,ne_eq,not_true_eq_false,if_false,hr]
    ·simp;omega
    ·simp only[Ao,List.getElem?_toArray,AP];by_cases j1:j<off
     ·rw[if_neg (by omega),AG (by simp;omega),A8 j1];simp
     ·by_cases j2:j<off+i.size
      ·rw[if_pos (by omega),AM (by simp;omega),AG (by simp;omega)];simp;congr 2;omega
      ·rw[if_neg (by omega),AM (by simp;omega),AM (by simp;omega),BG];simp;congr 2;omega
   split at ha
   ·rename_i s off he;rw[he] at g1;split at ha
    ·rename_i cs hb;split at ha
     ·rename_i hle;simp only[DM,DN] at ha;obtain⟨rfl,rfl⟩:=ha;obtain⟨b,e,hσ⟩:=g1.rel.pv_inv;obtain⟨b',old,el,k1,k2,k3,k4⟩:=h.hp _ _ hb;obtain rfl:b'=b:=Option.some.inj (k1.symm.trans hσ);obtain⟨arr,r1,r2,r3⟩:=key b' off old el e k2 (by omega);have cN:∀s',zcY σ σ w (w.setRow b' arr) s':=fun s'=>zaa w b' old arr el k2 r2 s';have hA:∀c,A c->(w.setRow b' arr).heap[c]? = w.heap[c]?:=fun c hc=>setRow_other w b' c arr (fun e=>(h.dom s b' hσ).2.2.1 (e▸hc));refine⟨_,_,A,σ,r1,h.setBlk hσ k2 r2 (fun s' ae => ?_) ⟨b',arr,el,hσ,setRow_heap w b' old arr el _ k2,by rw[jV (by omega),r2];exact k3,fun j y hj => ?_⟩ (fun z es _ he=>by rw[hb] at he;cases he),.inr ⟨rfl,rfl⟩⟩
      ·rw[Blk.refs,zh] at ae;obtain⟨y,hy,dh⟩:=ae;obtain⟨j,hj⟩:=AA.1 hy;rw[yc (by omega)] at hj;split at hj
       ·exact g2.dang s' ((c4 s').1 (zh.2 ⟨y,Ae hj,dh⟩))
       ·exact h.dangV s cs hb s' (zh.2 ⟨y,Ae hj,dh⟩)
      ·rw[yc (by omega)] at hj;rw[r3];split at hj
       ·rename_i hc;rw[if_pos (by omega)];exact (c2 _ _ hj).mono (fun _ h=>h) hA fun s' _=>cN s'
       ·rename_i hc;rw[if_neg (by omega)];exact (k4 _ _ hj).mono (fun _ h=>h) hA fun s' _=>cN s'
     ·cases ha
    ·cases ha
   ·rename_i s z0 k off he;rw[he] at g1;split at ha
    ·rename_i z' es hb;split at ha
     ·rename_i cs an;split at ha
      ·rename_i hle;obtain⟨rfl,hle,hnr⟩:=hle;simp only[DM,DN] at ha;obtain⟨rfl,rfl⟩:=ha;obtain⟨b,e,hσ⟩:=g1.rel.pe_inv;obtain⟨k0,⟨k1,rfl⟩|⟨b',old,el,k1,k2,k3,k5,k4⟩⟩:=h.hp _ _ hb
       ·simp at an
       ·obtain rfl:b'=b:=Option.some.inj (k1.symm.trans hσ);have hcz:cs.length=z0:=k0 _ (Ae an);have hk:k<es.length:=(Ac.1 an).1;have bu:(k+1)*z0<=es.length*z0:=AH _ hk;rw[Bb] at bu;obtain⟨arr,r1,r2,r3⟩:=key b' (k*z0+off) old el e k2 (by omega);have hA:∀c,A c->(w.setRow b' arr).heap[c]? = w.heap[c]?:=fun c hc=>setRow_other w b' c arr (fun e=>(h.dom s b' hσ).2.2.1 (e▸hc));have pA:∀(j:Nat) (y:AV),new[j]? = some y->y.refs=[]:=(by intro j y hj;exact AF.2 fun s' ae=>by have:=zh.2 ⟨y,Ae hj,ae⟩;rw[hnr] at this;cases this);refine⟨_,_,A,σ,r1,h.setBlk hσ k2 r2 (by simp[Blk.refs]) ⟨fun e' ik => ?_,.inr ⟨b',arr,el,hσ,setRow_heap w b' old arr el _ k2,by rw[r2];simpa using k3,fun j hj => ?_,fun ii ee c y aQ hc => ?_⟩⟩ (fun z bj _ he=>by rw[hb] at he;cases he;exact⟨_,rfl,by simp⟩),.inr ⟨rfl,rfl⟩⟩
        ·rcases C1 ik with ik|rfl
         ·exact k0 _ ik
         ·rw[jV (by omega)];exact hcz
        ·rw[r3];by_cases hc:k*z0+off<=j∧j<k*z0+off+i.size
         ·rw[if_pos hc];apply c3;have:j-(k*z0+off)<(Act.eval ⟨tm,df⟩ x).cells.size:=by omega
          rw[Dy];simp[Array.getD,this]
         ·rw[if_neg hc];exact k5 j (by simpa using hj)
        ·rw[r3];by_cases mm:k=ii
         ·subst mm;rw[CB hk] at aQ;cases aQ;rw[yc (by omega)] at hc;split at hc
          ·rename_i im;rw[if_pos (by omega),show k*z0+c-(k*z0+off)=c-off by omega];exact ((c2 _ _ hc).to0 (pA _ _ hc)).mono (fun _ h=>h) hA
          ·rename_i im;rw[if_neg (by omega)];exact (k4 _ _ _ _ an hc).mono (fun _ h=>h) hA
         ·have ah:=mm;rw[Cr mm] at aQ;have qH:=k0 _ (Ae aQ);have aT:=(Ac.1 hc).1;rw[if_neg (fun hh=>ah (ziK (i:=ii) (j:=k) (c:=c) (z:=z0) (by omega) (by omega) (by omega)).symm)];exact (k4 _ _ _ _ aQ hc).mono (fun _ h=>h) hA
      ·cases ha
     ·cases ha
    ·cases ha
   ·cases ha
  ·cases ha
 ·cases ha
end
end
section
open Go Go.RowKit
section
variable {S:Seat} {A0:Nat->Prop} {O:Hnd} {w0:World} {A:Nat->Prop} {σ:Nat->Option Nat} {w:World} {st aa:ASt} {tm:Array Value} {df:List Deferred} {o:Oper} {v:AV} {d:Nat}
def Src (w:World) (y:Value) (m:Nat) (news:List Value):Prop :=
 ∃b c,y=.slice b m c∧((b=none∧m=0∧news=[])∨∃ad,b=some ad∧∀j u,news[j]? = some u->w.cell? (ad.add j)=some u)
def zjM {P:Program} {size m:Nat} {y:Value} {news:List Value} (h:Src w y m news) (hl:news.length=m*size) (w':World) (hw:w'.heap=w.heap) :
  (Builtin.firstCells size m y).run P w'=.ok news.toArray w'∧∃b c,y=.slice b m c:=by
 obtain⟨b,c,rfl,⟨rfl,rfl,rfl⟩|⟨ad,rfl,h2⟩⟩:=h
 ·exact⟨by simp[Builtin.firstCells],_,_,rfl⟩
 ·exact⟨run_firstCells_some (P:=P) w' size m ad m c news hl (fun j u hj=>by have:=h2 j u hj;simpa[World.cell?,hw] using this),_,_,rfl⟩
def zic {P:Program} (t ty e:TypeId) (i:TypeInfo) (ht:P.underlying t=some (.slice e)) (hi:P.info? e=some i)
  (g n cap:Nat) (cur:Array Value) (el:TypeId) (hg:w.heap[g]? = some (.cells cur el (0,0))) {y:Value} {m:Nat} {news:List Value} (hy:Src w y m news) (hl:news.length=m*i.size) (h1:∀u∈news,u.oneCell'=true)
  (aq:n+m<=cap) (aR:n*i.size+news.length<=cur.size) :
  (Builtin.append_ #[t,t] ty #[.slice (some ⟨g,0,none⟩) n cap,y]).run P w =
   .ok (.slice (some ⟨g,0,none⟩) (n+m) cap) (w.setRow g (cur.toList.take (n*i.size)++news++cur.toList.drop (n*i.size+news.length)).toArray):=by
 obtain⟨hf,b,c,rfl⟩:=zjM (P:=P) hy hl w rfl;have du:=run_storeCells_at P g (n*i.size) el news 0 cur w hg (by simpa using aR) h1;simp only[BF] at du;simp[Builtin.append_,run_underlying ht,Go.sizeOf,typeInfo,hi,Builtin.lenOf,aq,hf,Addr.add_lit,du]
def s7 {P:Program} (t ty e:TypeId) (i:TypeInfo) (ht:P.underlying t=some (.slice e)) (hi:P.info? e=some i) {y:Value} (hy:Src w y 0 []) :
  (Builtin.append_ #[t,t] ty #[.slice none 0 0,y]).run P w=.ok (.slice none 0 0) w:=by
 obtain⟨hf,b,c,rfl⟩:=zjM (P:=P) (size:=i.size) hy (by simp) w rfl;simp[Builtin.append_,run_underlying ht,Go.sizeOf,typeInfo,hi,Builtin.lenOf,hf]
def s6 {P:Program} (t ty e:TypeId) (i:TypeInfo) (z:Value) (ht:P.underlying t=some (.slice e)) (hi:P.info? e=some i) (hz:i.zero=some z)
  (a:Option Addr) (n cap:Nat) (olds:List Value) (fO:olds.length=n*i.size) (holds:(a=none∧olds=[])∨∃ad,a=some ad∧∀j v,olds[j]? = some v->w.cell? (ad.add j)=some v)
  {y:Value} {m:Nat} {news:List Value} (hy:Src w y m news) (hl:news.length=m*i.size) (hg:cap<n+m) (rW:((n+m:Nat):Int)<=9223372036854775807) (aR:Builtin.nextslicecap (n+m) cap*i.bytes<=281474976710656) :
  (Builtin.append_ #[t,t] ty #[.slice a n cap,y]).run P w =
   .ok (.slice (some ⟨w.heap.size,0,none⟩) (n+m) (grownCap w (n+m) cap e)) (w.drew.alloc (.cells (olds.toArray++news.toArray++Builtin.zeroCells z.cells (grownCap w (n+m) cap e-(n+m))) e)):=by
 have hn:¬(n+m<=cap):=by omega
 have rV:¬(9223372036854775807<((n:Int)+(m:Int))):=by omega
 have rZ:¬(281474976710656<Builtin.nextslicecap (n+m) cap*i.bytes):=by omega
 obtain⟨hf,b,c,rfl⟩:=zjM (P:=P) hy hl w.drew rfl;have eQ:(Builtin.firstCells i.size n (.slice a n cap)).run P w.drew=.ok olds.toArray w.drew:=by
  rcases holds with⟨rfl,rfl⟩|⟨ad,rfl,h2⟩
  ·simp[Builtin.firstCells]
  ·exact run_firstCells_some (P:=P) w.drew i.size n ad n cap olds fO (by simpa using h2)
 simp[Builtin.append_,run_underlying ht,Go.sizeOf,typeInfo,zeroValue,hi,hz,Builtin.lenOf,hn,rV,rZ,Question.forced,hf,eQ,newRow,grownCap];congr 2;apply Array.ext';simp[AP]
def zkf (h:SRel S A0 O w0 A σ w st tm) {z:Nat} {y:AV} {rv:Value} {ys:List (List AV)} (hv:VR S A σ w y rv) (he:wA st.hp z y=some ys) :
  ∃news,Src w rv ys.length news∧news.length=ys.length*z∧(∀e∈ys,e.length=z)∧(∀u∈news,u.oneCell'=true)∧∀(i:Nat) (e:List AV) (c:Nat) (x:AV),ys[i]? = some e->e[c]? = some x->VR0 S A w x (news.getD (i*z+c) undef):=by
 have mk:∀(b off cap:Nat) (u:Nat->Value),rv=.slice (some ⟨b,off,none⟩) ys.length cap->(∀e∈ys,e.length=z)->(∀j,j<ys.length*z->w.cell? ⟨b,off+j,none⟩=some (u j))->(∀j,j<ys.length*z->(u j).oneCell'=true) ->
   (∀(i:Nat) (e:List AV) (c:Nat) (x:AV),ys[i]? = some e->e[c]? = some x->VR0 S A w x (u (i*z+c))) ->
   ∃news,Src w rv ys.length news∧news.length=ys.length*z∧(∀e∈ys,e.length=z)∧(∀u∈news,u.oneCell'=true)∧∀(i:Nat) (e:List AV) (c:Nat) (x:AV),ys[i]? = some e->e[c]? = some x->VR0 S A w x (news.getD (i*z+c) undef):=by
  intro b off cap u hr h0 h1 h2 h3;refine⟨(List.range (ys.length*z)).map u,⟨_,_,hr,.inr ⟨_,rfl,fun j v hj => ?_⟩⟩,by simp,h0,fun v hv => ?_,fun i e c x hi hc => ?_⟩
  ·simp only[As,Ag] at hj;obtain⟨k,hk,rfl⟩:=hj;obtain⟨cW,cx⟩:=Ac.1 hk;simp at cW cx;subst cx;rw[Addr.add_lit];exact h1 j cW
  ·rw[Al] at hv;obtain⟨k,hk,rfl⟩:=hv;exact h2 k (by simpa using hk)
  ·have aj:i*z+c<ys.length*z:=ziM (Ac.1 hi).1 (by have:=(Ac.1 hc).1;have:=h0 e (Ae hi);omega);have:((List.range (ys.length*z)).map u).getD (i*z+c) undef=u (i*z+c):=by simp[List.getD,aj]
   rw[this];exact h3 i e c x hi hc
 unfold wA at he;split at he
 ·cases he;rw[hv.v_inv];exact⟨[],⟨_,_,rfl,.inl ⟨rfl,rfl,rfl⟩⟩,by simp,by simp,by simp,by simp⟩
 ·cases he;rw[hv.v_inv];exact⟨[],⟨_,_,rfl,.inr ⟨_,rfl,by simp⟩⟩,by simp,by simp,by simp,by simp⟩
 ·rename_i z' es;split at he
  ·rename_i hz;subst hz;cases he;rcases hv.sl_inv with⟨rfl,hr⟩|⟨b,o',cap,u,hr,k1,k2,k3,k4,k5,k6⟩|⟨rfl,a,cap,hr⟩
   ·rw[hr];exact⟨[],⟨_,_,rfl,.inl ⟨rfl,rfl,rfl⟩⟩,by simp,by simp,by simp,by simp⟩
   ·exact mk b o' cap u hr k3 k4 k5 k6
   ·rw[hr];exact⟨[],⟨_,_,rfl,.inr ⟨_,rfl,by simp⟩⟩,by simp,by simp,by simp,by simp⟩
  ·cases he
 ·rename_i s z' off len;split at he
  ·rename_i fX es hb;split at he
   ·rename_i hc;cases he;obtain⟨cH,dM,hle⟩:=hc;subst cH;subst dM;have hlen:((es.drop off).take len).length=len:=by simp;omega
    obtain⟨k0,lu⟩:=h.hp _ _ hb;have h0:∀e∈(es.drop off).take len,e.length=fX:=fun e he=>k0 e (Bo (BT he));rcases hv.lsl_inv with⟨rfl,rfl,_,hr⟩|⟨b,o',cap,cs,el,hr,k1,k2,k3,k4,k5,k6⟩
    ·rw[hr];exact⟨[],⟨_,_,rfl,.inl ⟨rfl,by simp,rfl⟩⟩,by simp,by simp,by simp,by simp⟩
    ·rcases lu with⟨j1,_⟩|⟨b',vs,bT,j1,j2,j3,j5,j4⟩
     ·rw[j1] at k1;cases k1
     ·obtain rfl:b'=b:=Option.some.inj (j1.symm.trans k1);by_cases fP:len=0
      ·subst fP;exact mk b' o' cap (fun _=>undef) (by rw[hlen];exact hr) h0 (by simp) (by simp) (by simp)
      ·have ho:=k3 (.inl (by omega));subst ho;have aF:len*fX+off*fX<=es.length*fX:=by rw[←Bb];exact AH _ (by omega)
       refine mk b' (off*fX) cap (fun j=>vs.getD (off*fX+j) undef) (by rw[hlen];exact hr) h0 (fun j hj => ?_) (fun j hj => ?_) (fun i e c x hi hc => ?_)
       ·rw[hlen] at hj;have:off*fX+j<vs.size:=by omega
        simp[World.cell?,j2,this,Array.getD]
       ·rw[hlen] at hj;exact j5 _ (by omega)
       ·have aj:i<len:=by have:=(Ac.1 hi).1;omega
        rw[A8 aj,BG] at hi;have:=j4 _ _ _ _ hi hc
        rwa [Bb,A5] at this
   ·cases he
  ·cases he
 ·cases he
def zcR {R:AV->Value->Prop} {z:Nat} {es ys:List (List AV)} {olds news rest:List Value} (h1:∀e∈es,e.length=z) (h2:∀e∈ys,e.length=z) (gZ:olds.length=es.length*z) (dD:news.length=ys.length*z)
  (r1:∀(i:Nat) (e:List AV) (c:Nat) (x:AV),es[i]? = some e->e[c]? = some x->R x (olds.getD (i*z+c) undef)) (r2:∀(i:Nat) (e:List AV) (c:Nat) (x:AV),ys[i]? = some e->e[c]? = some x->R x (news.getD (i*z+c) undef))
  (i:Nat) (e:List AV) (c:Nat) (x:AV) (hi:(es++ys)[i]? = some e) (hc:e[c]? = some x):R x ((olds++news++rest).getD (i*z+c) undef):=by
 have aT:=(Ac.1 hc).1;by_cases aj:i<es.length
 ·rw[AG aj] at hi;have qH:=h1 e (Ae hi);have hb:i*z+c<olds.length:=by rw[gZ];exact ziM aj (by omega)
  have:=r1 i e c x hi hc;simpa[List.getD,AP,AG hb] using this
 ·rw[AM (by omega)] at hi;have qH:=h2 e (Ae hi);have dA:=(Ac.1 hi).1;have hb:(i-es.length)*z+c<news.length:=by rw[dD];exact ziM dA (by omega)
  have heq:i*z+c=olds.length+((i-es.length)*z+c):=(by rw[gZ,←A5,←Bb];congr 2;omega);have:=r2 _ e c x hi hc;rw[heq,AP,An,AM (by omega),AG (by omega)];simpa[List.getD] using this
def qc (l:List Value) (j:Nat):l.toArray.getD j undef=l.getD j undef:=by simp[Ao,List.getD]
def zcS {es_len ys_len z:Nat} {olds news rest:List Value} (gZ:olds.length=es_len*z) (dD:news.length=ys_len*z) (h1:∀u∈olds,u.oneCell'=true) (h2:∀u∈news,u.oneCell'=true) (j:Nat) (hj:j<(es_len+ys_len)*z) :
  ((olds++news++rest).getD j undef).oneCell'=true:=by
 have hb:j<(olds++news).length:=by simp[gZ,dD,←Bb];exact hj
 have:(olds++news++rest).getD j undef=(olds++news)[j]:=by rw[An,AG hb,Aa hb];rfl
 rw[this];rcases Aj.1 (Ay hb) with h|h
 ·exact h1 _ h
 ·exact h2 _ h
def SRel.dropS (h:SRel S A0 O w0 A σ w st tm) {s:Nat} (dF:zcj s=false):SRel S A0 O w0 A (fun k=>if k=s then none else σ k) w (st.drop s) tm:=by
 show SRel S A0 O w0 A (fun k=>if k=s then none else σ k) w ((st.scrub s).setH s none) tm;have hq:=h.scrub s;have nr:∀k,s∉((st.scrub s).fr k).refs:=fun k=>zfP s (st.fr k);have ks:∀s',s'≠s->zcY σ (fun k=>if k=s then none else σ k) w w s':=fun s' ah=>⟨by simp[ah],fun b cs el _ hb=>⟨cs,hb,rfl⟩⟩;have nrB:∀s' cs,(st.scrub s).hp s'=some (.var cs)->s∉AV.refsL cs:=by
  intro s' cs an hm;simp only[ASt.scrub,Ag] at an;obtain⟨b0,_,he⟩:=an;cases b0 with
  | var iy =>simp only[zbe,Blk.var.injEq] at he;subst he;rw[zh] at hm;obtain⟨xx,hx,hm⟩:=hm;rw[Al] at hx;obtain⟨yy,_,rfl⟩:=hx;exact zfP s yy hm
  | arr=>simp[zbe] at he
 refine⟨fun k=>(hq.fr k).mono (fun _ h=>h) (fun _ _=>rfl) fun s' ae=>ks s' fun e=>nr k (e▸ae),fun s' blk aw => ?_,fun k s' ae => ?_,fun s' cs an eU bG => ?_,fun s' b ae => ?_,fun a1 a2 b b1 b2 => ?_,hq.Alt,hq.Asub,hq.keep,hq.kp.of fun s' ae hn => ?_,hq.Olt⟩
 ·simp only[ASt.setH,upd] at aw;split at aw
  ·cases aw
  ·rename_i ah;refine (hq.hp s' blk aw).mono (fun _ h=>h) (fun _ _=>rfl) (by simp[ah]) (fun _ _=>rfl) fun eU bG=>ks eU fun e => ?_;subst e;cases blk with
   | var cs=>exact nrB s' cs aw (by rw[Blk.refs] at bG;exact bG)
   | arr=>simp[Blk.refs] at bG
 ·simp only[ASt.setH,upd];split
  ·rename_i e;subst e;exact absurd ae (nr k)
  ·exact hq.dang k s' ae
 ·simp only[ASt.setH,upd] at an ⊢;split at an
  ·cases an
  ·split
   ·rename_i e;subst e;exact absurd bG (nrB s' cs an)
   ·exact hq.dangV s' cs an eU bG
 ·split at ae
  ·cases ae
  ·rename_i ah;obtain⟨d1,d2⟩:=hq.dom s' b ae;exact⟨by simp[ASt.setH,upd,ah];exact d1,d2⟩
 ·split at b1
  ·cases b1
  ·split at b2
   ·cases b2
   ·exact hq.inj a1 a2 b b1 b2
 ·have ah:s'≠s:=fun e=>by rw[e,dF] at ae;cases ae
  exact⟨ks s' ah,fun z es he=>⟨es,by simp only[ASt.setH,upd,if_neg ah];exact he,rfl⟩⟩
def op_app (h:SRel S A0 O w0 A σ w st tm) {t e:TypeId} {i:TypeInfo} {z:Value} {x y:Operand} {x' y':AOpd} (ho:o.op=.call { callee:=.builtin .append,args:=#[x,y],argTypes:=#[t,t] }) (hu:S.P.underlying t=some (.slice e)) (hi:S.P.info? e=some i) (hz:i.zero=some z)
  (bW:z.cells.size=i.size) (cu:i.bytes<=zmz i.size) (h1:qB S x=some x') (h2:qB S y=some y') (ha:aop (.app i.size x' y') d st=some (v,aa)):w7 S A0 O w0 w tm df o v aa:=by
 have g1:=h.ev (df:=df) h1;have g2:=h.ev (df:=df) h2;have ax:(execOp (Act.eval ⟨tm,df⟩) o).run S.P w=((Builtin.append_ #[t,t] o.type #[Act.eval ⟨tm,df⟩ x,Act.eval ⟨tm,df⟩ y]).run S.P w).andThen fun a w'=>.ok (.value a) w':=(by simp[execOp,ho,resolve,invoke,builtin]);have fits:∀n cap,n<=zcq i.size->cap<n->Builtin.nextslicecap n cap*i.bytes<=281474976710656:=fun n cap hn hc=>growslice_fits_wide hc (yz hn cu).2.1;simp only[aop] at ha;split at ha
 ·rename_i ys dh;obtain⟨news,s1,s2,s3,s4,s5⟩:=zkf h g2.rel dh;split at ha
  ·rename_i he;rw[he] at g1;have e1:=g1.rel.v_inv;rw[e1] at ax;split at ha
   ·rename_i aq;split at ha
    ·rename_i hd;simp only[DM,DN] at ha;obtain⟨rfl,rfl⟩:=ha;by_cases hm:ys.length=0
     ·have lU:ys=[]:=BE hm;subst lU;obtain rfl:news=[]:=BE (by simpa using s2);rw[s7 t o.type e i hu hi s1] at ax;have hσd:σ d=none:=by
       cases hq:σ d with
       | none=>rfl
       | some b=>exact absurd hd (h.dom d b hq).1
      refine⟨_,w,A,σ,ax,⟨h.fr,fun s blk hb => ?_,fun k s hs => ?_,fun s cs hs s' ae => ?_,fun s b hs => ?_,h.inj,h.Alt,h.Asub,h.keep,h.kp.same (fun _ _=>⟨rfl,fun _ cs _ _ hb=>⟨cs,hb,rfl⟩⟩) (fun s z es he _=>by
       have ah:s≠d:=fun e=>by rw[e,hd] at he;cases he
       simp only[ASt.setH,upd,if_neg ah];exact he),h.Olt⟩,.inl ⟨_,rfl,.lslnil hσd,fun s hs => ?_⟩⟩
      ·simp only[ASt.setH,upd] at hb;split at hb
       ·rename_i e;subst e;cases hb;exact⟨by simp,.inl ⟨hσd,rfl⟩⟩
       ·exact h.hp s blk hb
      ·simp only[ASt.setH,upd];split
       ·simp
       ·exact h.dang k s hs
      ·simp only[ASt.setH,upd] at hs ⊢;split
       ·simp
       ·split at hs
        ·cases hs
        ·exact h.dangV s cs hs s' ae
      ·obtain⟨k1,k2⟩:=h.dom s b hs;refine⟨?_,k2⟩;simp only[ASt.setH,upd];split
       ·simp
       ·exact k1
      ·rw[AV.refs,Ah] at hs;subst hs;simp[ASt.setH,upd]
     ·have hr:=s6 (P:=S.P) t o.type e i z hu hi hz none 0 0 [] (by simp) (.inl ⟨rfl,rfl⟩) s1 s2 (by omega) (by have:=(yz aq cu).1;omega) (by rw[AY];exact fits _ _ aq (by omega));rw[hr] at ax;simp only[AY] at ax;have hdr:=h.drew;have bp:=grownCap_ge w ys.length 0 e;have aV:=grownCap_le_maxLen w ys.length 0 e (by have:=(yz aq cu).1;unfold maxLen;omega);refine⟨_,_,A,_,ax,hdr.newBlk (el:=e) hd (by simp[Blk.refs]) ⟨s3,.inr ⟨_,_,e,qD _ _ _,heap_alloc_new w.drew _, ?_,fun j hj => ?_,fun ii ee c xx aQ hc => ?_⟩⟩,.inl ⟨_,rfl, ?_,fun s hs => ?_⟩⟩
      ·simp only[CD,Bq,BI,size_zeroCells,bW,s2];omega
      ·have:=zcS (es_len:=0) (ys_len:=ys.length) (z:=i.size) (olds:=[]) (news:=news) (rest:=(Builtin.zeroCells z.cells (grownCap w ys.length 0 e-ys.length)).toList) (by simp) s2 (by simp) s4 j (by simpa using hj);have e2:([].toArray++news.toArray++Builtin.zeroCells z.cells (grownCap w ys.length 0 e-ys.length))=([]++news++(Builtin.zeroCells z.cells (grownCap w ys.length 0 e-ys.length)).toList).toArray:=by apply Array.ext';simp
       rw[e2,qc];exact this
      ·have:=zcR (R:=VR0 S A w) (es:=[]) (olds:=[]) (rest:=(Builtin.zeroCells z.cells (grownCap w ys.length 0 e-ys.length)).toList) (by simp) s3 (by simp) s2 (by simp) s5 ii ee c xx (by simpa using aQ) hc;have e2:([].toArray++news.toArray++Builtin.zeroCells z.cells (grownCap w ys.length 0 e-ys.length))=([]++news++(Builtin.zeroCells z.cells (grownCap w ys.length 0 e-ys.length)).toList).toArray:=by apply Array.ext';simp
       rw[e2,qc];exact (VR0.heap (w:=w) (w':=w.drew) rfl this).mono (fun _ h=>h) fun b hb=>heap_alloc_old w.drew _ b (h.Alt b hb)
      ·refine .lsl (qD _ _ _) bp (fun _=>by simp) (heap_alloc_new w.drew _) ?_ aV;simp only[CD,Bq,BI,size_zeroCells,bW,s2,AY,←Bb];exact AH _ (by omega)
      ·rw[AV.refs,Ah] at hs;subst hs;simp[ASt.setH,upd]
    ·cases ha
   ·cases ha
  ·rename_i s z' n he;rw[he] at g1;split at ha
   ·rename_i fX es hb;split at ha
    ·rename_i hc;obtain⟨cC,rfl,rfl,rfl,aq⟩:=hc;simp only[DM,DN] at ha;obtain⟨rfl,rfl⟩:=ha;obtain⟨k0,lu⟩:=h.hp _ _ hb;have hsc:=h.scrub s;have mE:(st.scrub s).hp s=some (.arr i.size es):=by simp[ASt.scrub,hb,zbe]
     have bX:∀e∈es++ys,e.length=i.size:=fun e he=>(Aj.1 he).elim (k0 e) (s3 e);have hlen:(es++ys).length=es.length+ys.length:=AB
     -- a row in new memory,under the old name
     have grow:∀(a:Option Addr) (cap:Nat) (olds:List Value),Act.eval ⟨tm,df⟩ x=.slice a es.length cap->olds.length=es.length*i.size->((a=none∧olds=[])∨∃ad,a=some ad∧∀j v,olds[j]? = some v->w.cell? (ad.add j)=some v) ->
       (∀u∈olds,u.oneCell'=true)->(∀(ii:Nat) (e:List AV) (c:Nat) (x:AV),es[ii]? = some e->e[c]? = some x->VR0 S A w x (olds.getD (ii*i.size+c) undef))->cap<es.length+ys.length ->
       w7 S A0 O w0 w tm df o (.lsl s i.size 0 (es.length+ys.length)) ((st.scrub s).setH s (some (.arr i.size (es++ys)))):=by
      intro a cap olds e1 l1 l2 l3 l4 l5;have hr:=s6 (P:=S.P) t o.type e i z hu hi hz a es.length cap olds l1 l2 s1 s2 l5 (by have:=(yz aq cu).1;omega) (fits _ _ aq l5);rw[e1,hr] at ax;simp only[Result.andThen_ok] at ax;have bp:=grownCap_ge w (es.length+ys.length) cap e;have aV:=grownCap_le_maxLen w (es.length+ys.length) cap e (by have:=(yz aq cu).1;unfold maxLen;omega);generalize hzc:Builtin.zeroCells z.cells (grownCap w (es.length+ys.length) cap e-(es.length+ys.length))=zc at ax;have oS:zc.size=(grownCap w (es.length+ys.length) cap e-(es.length+ys.length))*i.size:=by rw[←hzc,size_zeroCells,bW]
      have e2:(olds.toArray++news.toArray++zc)=(olds++news++zc.toList).toArray:=by apply Array.ext';simp
      rw[e2] at ax
      -- the state without the row
      have iS:SRel S A0 O w0 A (fun k=>if k=s then none else σ k) w.drew ((st.scrub s).setH s none) tm:=h.drew.dropS cC;have heq:((st.scrub s).setH s none).setH s (some (.arr i.size (es++ys)))=(st.scrub s).setH s (some (.arr i.size (es++ys))):=by
       simp only[ASt.setH];congr 1;funext k;simp only[upd]
       split<;>rfl
      rw[←heq];refine⟨_,_,A,_,ax,iS.newBlk (el:=e) (by simp[ASt.setH,upd]) (by simp[Blk.refs]) ⟨bX,.inr ⟨_,_,e,qD _ _ _,heap_alloc_new w.drew _, ?_,fun j hj => ?_,fun ii ee c xx aQ hc => ?_⟩⟩,.inl ⟨_,rfl, ?_,fun s' ae => ?_⟩⟩
      ·simp[l1,s2,Bb]
      ·rw[qc];exact zcS l1 s2 l3 s4 j (by rw[hlen] at hj;exact hj)
      ·rw[qc];exact (VR0.heap (w:=w) (w':=w.drew) rfl (zcR k0 s3 l1 s2 l4 s5 ii ee c xx aQ hc)).mono (fun _ h=>h) fun b hb=>heap_alloc_old w.drew _ b (h.Alt b hb)
      ·refine .lsl (qD _ _ _) bp (fun _=>by simp) (heap_alloc_new w.drew _) ?_ aV;simp only[Bq,AB,Bw,l1,s2,oS,AY,←Bb];exact AH _ (by omega)
      ·rw[AV.refs,Ah] at ae;subst ae;simp[ASt.setH,upd]
     rcases g1.rel.lsl_inv with⟨_,hn0,kσ,e1⟩|⟨b,o',cap,cs,el,e1,j1,j2,j3,j4,j5,j6⟩
     ·have dH:es=[]:=BE hn0;subst dH;by_cases hm:ys.length=0
      ·have lU:ys=[]:=BE hm;subst lU;obtain rfl:news=[]:=BE (by simpa using s2);rw[e1,s7 t o.type e i hu hi s1] at ax;have heq:(st.scrub s).setH s (some (.arr i.size ([]++[])))=st.scrub s:=by
        simp only[ASt.setH];cases hq:st.scrub s with
        | mk f p =>
         simp only;congr 1;funext k;simp only[upd];split
         ·rename_i e;subst e;rw[hq] at mE;exact mE.symm
         ·rfl
       rw[heq];exact⟨_,w,A,σ,ax,hsc,.inl ⟨_,rfl,.lslnil kσ,fun s' ae=>by rw[AV.refs,Ah] at ae;subst ae;rw[mE];simp⟩⟩
      ·exact grow none 0 [] e1 (by simp) (.inl ⟨rfl,rfl⟩) (by simp) (by simp) (by simp;omega)
     ·rcases lu with⟨q1,_⟩|⟨b',vs,bT,q1,q2,q3,q5,q4⟩
      ·rw[q1] at j1;cases j1
      ·obtain rfl:b'=b:=Option.some.inj (q1.symm.trans j1);rw[q2] at j4;simp only[DM,Obj.cells.injEq] at j4;obtain⟨e3,e4,_⟩:=j4;subst e3;subst e4;have gV:=j3 (.inr rfl);simp only[Nat.zero_mul] at gV;subst gV;simp only[AY] at j5;have gz:(vs.toList.take (es.length*i.size)).length=es.length*i.size:=by simp;omega
       have aZ:∀j,j<es.length*i.size->(vs.toList.take (es.length*i.size)).getD j undef=vs.getD j undef:=(by intro j hj;simp[List.getD,Ao,A8 hj]);have bh:∀u∈vs.toList.take (es.length*i.size),u.oneCell'=true:=(by intro u hu;obtain⟨j,hj⟩:=AA.1 hu;have eP:=(Ac.1 hj).1;rw[gz] at eP;have e3:=aZ j eP;simp only[List.getD,hj,A7] at e3;rw[e3];exact q5 j eP);have hrel:∀(ii:Nat) (e:List AV) (c:Nat) (x:AV),es[ii]? = some e->e[c]? = some x->VR0 S A w x ((vs.toList.take (es.length*i.size)).getD (ii*i.size+c) undef):=(by intro ii ee c xx aQ hc;rw[aZ _ (ziM (Ac.1 aQ).1 (by have:=(Ac.1 hc).1;have:=k0 ee (Ae aQ);omega))];exact q4 _ _ _ _ aQ hc);by_cases hr:es.length+ys.length<=cap
       ·have aR:es.length*i.size+news.length<=vs.size:=(by rw[s2,←Bb];exact AD (AH _ hr) j5);have hrr:=zic (P:=S.P) t o.type e i hu hi b' es.length cap vs bT q2 s1 s2 s4 hr aR;rw[e1,hrr] at ax;simp only[Result.andThen_ok] at ax;generalize au:(vs.toList.take (es.length*i.size)++news++vs.toList.drop (es.length*i.size+news.length))=nw at ax;have aF:nw.toArray.size=vs.size:=by rw[←au];simp;omega
        have hA:∀c,A c->(w.setRow b' nw.toArray).heap[c]? = w.heap[c]?:=fun c hc=>setRow_other w b' c _ (fun e=>(h.dom s b' q1).2.2.1 (e▸hc));refine⟨_,_,A,σ,ax,hsc.setBlk q1 q2 aF (by simp[Blk.refs]) ⟨bX,.inr ⟨b',_,bT,q1,setRow_heap w b' vs _ bT _ q2, ?_,fun j hj => ?_,fun ii ee c xx aQ hc => ?_⟩⟩ (fun z es _ _=>by simp_all),.inl ⟨_,rfl, ?_,fun s' ae => ?_⟩⟩
        ·rw[aF,hlen];exact AD (AH _ hr) j5
        ·rw[qc,←au];exact zcS gz s2 bh s4 j (by rw[hlen] at hj;exact hj)
        ·rw[qc];have hx:=(zcR (rest:=vs.toList.drop (es.length*i.size+news.length)) k0 s3 gz s2 hrel s5 ii ee c xx aQ hc).mono (w':=w.setRow b' nw.toArray) (fun _ h=>h) hA;rw[au] at hx;exact hx
        ·exact .lsl q1 hr (fun _=>by simp) (setRow_heap w b' vs _ bT _ q2) (by rw[aF];simpa using j5) j6
        ·rw[AV.refs,Ah] at ae;subst ae;simp[ASt.setH,upd]
       ·exact grow _ cap _ e1 gz (.inr ⟨_,rfl,fun j v hj=>by
         have eP:=(Ac.1 hj).1;rw[gz] at eP;rw[A8 eP] at hj;rw[Addr.add_lit,AY,cell_of_row w b' j vs bT _ q2];simpa using hj⟩) bh hrel (by omega)
    ·cases ha
   ·cases ha
  ·cases ha
 ·cases ha
end
end
section
open Go Go.RowKit
section
variable {S:Seat} {A0:Nat->Prop} {O:Hnd} {w0:World} {A:Nat->Prop} {σ:Nat->Option Nat} {w:World} {st aa:ASt} {tm:Array Value} {df:List Deferred} {o:Oper} {v:AV} {d:Nat}
def SRel.grow (h:SRel S A0 O w0 A σ w st tm) {w':World} {A':Nat->Prop} (hk:KeepO (fun _=>False) w w') (h1:∀b,A b->A' b) (h2:∀b,A' b->A b∨w.heap.size<=b) (h3:∀b,A' b->b<w'.heap.size):SRel S A0 O w0 A' σ w' st tm:=by
 have hA:∀b,A b->w'.heap[b]? = w.heap[b]?:=fun b hb=>hk.block b (h.Alt b hb) (fun e=>e);have hs:∀s,zcY σ σ w w' s:=fun s=>⟨rfl,fun b cs el hb hc=>⟨cs,by rw[hk.block b (h.dom s b hb).2.1 (fun e=>e)];exact hc,rfl⟩⟩;refine⟨fun k=>(h.fr k).mono h1 hA fun s _=>hs s,fun s blk hb=>(h.hp s blk hb).mono h1 hA rfl (fun b hb=>hk.block b (h.dom s b hb).2.1 (fun e=>e)) fun s' _=>hs s',h.dang,h.dangV,fun s b hb => ?_,h.inj,h3,fun b hb => ?_, ?_, ?_,h.Olt⟩
 ·obtain⟨k1,k2,k3,k4⟩:=h.dom s b hb;exact⟨k1,AE k2 hk.size,fun aw=>(h2 b aw).elim k3 (fun e=>by omega),k4⟩
 ·rcases h2 b hb with hb|hb
  ·exact h.Asub b hb
  ·exact .inr (.inl (AD h.keep.size hb))
 ·exact h.keep.trans ⟨hk.os,hk.tape,hk.output,hk.size,fun k aA _=>hk.block k aA (fun e=>e)⟩
 ·exact h.kp.same (fun s _=>hs s) fun _ _ _ h _=>h
def op_cvs (h:SRel S A0 O w0 A σ w st tm) {s t e:TypeId} {i:TypeInfo} {x:Operand} {x':AOpd} (ho:o.op=.convert s t x) (hs:S.P.underlying s=some .string) (ht:S.P.underlying t=some (.slice e)) (he:S.P.underlying e=some (.int .u8)) (h1:qB S x=some x')
  (ha:aop (.cvs x') d st=some (v,aa)):w7 S A0 O w0 w tm df o v aa:=by
 have g1:=h.ev (df:=df) h1;simp only[aop] at ha;split at ha
 ·rename_i b hb;rw[hb] at g1;have e1:=g1.rel.v_inv;simp only[DM,DN] at ha;obtain⟨rfl,rfl⟩:=ha;generalize an:(b.data.map (fun c=>Value.int .u8 c.toNat)++Array.replicate (grownCap w b.size 0 e-b.size) (.int .u8 0))=cs;have ax:(execOp (Act.eval ⟨tm,df⟩) o).run S.P w=.ok (.value (.slice (some ⟨w.heap.size,0,none⟩) b.size (grownCap w b.size 0 e))) ((w.drew.alloc (.cells cs e)).freeze ⟨w.heap.size,cs.size,none⟩ 1):=by
   have h0:(w.drew.alloc (.cells cs e)).heap[w.heap.size]? = some (.cells cs e (0,0)):=heap_alloc_new w.drew _;have hsh:(w.drew.alloc (.cells cs e)).shape? w.heap.size=some (e,cs.size):=by simp only[World.shape?,h0]
   have rn:(b.data.map (fun c=>Value.int .u8 c.toNat)++Array.replicate ((Question.appendCap b.size 0 e).cut (w.tape w.drawn (Question.appendCap b.size 0 e))-b.size) (.int .u8 0))=cs:=an;have hcv:(Conv.stringToBytes e b).run S.P w=.ok (.slice (some ⟨w.heap.size,0,none⟩) b.size (grownCap w b.size 0 e)) ((w.drew.alloc (.cells cs e)).freeze ⟨w.heap.size,cs.size,none⟩ 1):=(by simp[Conv.stringToBytes,Question.forced,newRow,markStringish];rw[rn,hsh];simp[grownCap]);simp[execOp,ho,e1,convert,run_underlying hs,run_underlying ht,run_underlying he,hcv]
  have hlen:b.size<=cs.size:=by rw[←an];simp
  have au:((w.drew.alloc (.cells cs e)).freeze ⟨w.heap.size,cs.size,none⟩ 1).heap[w.heap.size]? = some (.cells cs e (cs.size,cs.size+1)):=by
   have h0:(w.drew.alloc (.cells cs e)).heap[w.heap.size]? = some (.cells cs e (0,0)):=heap_alloc_new w.drew _;have aj:w.heap.size<(w.drew.alloc (.cells cs e)).heap.size:=by simp
   simp only[World.freeze];rw[if_neg (by omega)];simp only[Array.getElem?_modify,if_true,h0,AQ];simp
  have hold:∀k,k<w.heap.size->((w.drew.alloc (.cells cs e)).freeze ⟨w.heap.size,cs.size,none⟩ 1).heap[k]? = w.heap[k]?:=(by intro k hk;simp only[World.freeze];rw[if_neg (by omega)];simp only[Array.getElem?_modify];rw[if_neg (by omega)];exact heap_alloc_old w.drew _ k hk);have bD:((w.drew.alloc (.cells cs e)).freeze ⟨w.heap.size,cs.size,none⟩ 1).heap.size=w.heap.size+1:=(by simp[World.freeze]);generalize hw':(w.drew.alloc (.cells cs e)).freeze ⟨w.heap.size,cs.size,none⟩ 1=w' at *;have cg:KeepO (fun _=>False) w w':=(by refine⟨?_, ?_, ?_,by omega,fun k hk _=>hold k hk⟩<;>(subst hw';simp only[World.freeze];rw[if_neg (by omega)];rfl))
  have mo:=h.grow (A':=fun c=>A c∨c=w.heap.size) cg (fun _ h=>.inl h) (fun c hc=>hc.imp id (fun e=>by omega)) (fun c hc=>hc.elim (fun hc=>by have:=h.Alt c hc;omega) (fun e=>by omega));refine⟨_,w',_,σ,ax,mo,.inl ⟨_,rfl,.of0 ?_,by simp[AV.refs]⟩⟩;have hl:(b.data.toList.map fun c=>[AV.v (.int .u8 c.toNat)]).length=b.size:=by simp
  have aZ:∀j,j<b.size->cs.getD j undef=.int .u8 (b.data.toList.getD j 0).toNat:=(by intro j hj;have bA:j<b.data.size:=hj;rw[←an,Ao,Cs (by simpa using bA),Array.getElem?_map,An,BK,Bh bA];rfl)
  have:=VR0.sl (S:=S) (A:=fun c=>A c∨c=w.heap.size) (w:=w') (z:=1) (es:=b.data.toList.map fun c=>[AV.v (.int .u8 c.toNat)]) (b:=w.heap.size) (o:=0) (cap:=grownCap w b.size 0 e) (u:=fun j=>cs.getD j undef) (.inr rfl)
   (by rw[hl];exact grownCap_ge w _ _ _) (by intro e he;rw[Al] at he;obtain⟨c,_,rfl⟩:=he;rfl)
   (fun j hj=>by
    rw[hl,CM] at hj;have:j<cs.size:=by omega
    simp[World.cell?,au,Array.getD,this])
   (fun j hj=>by rw[hl,CM] at hj;simp only[aZ j hj];rfl)
   (fun ii ee c xx hi hc=>by
    have nN:ii<b.size:=by rw[←hl];exact (Ac.1 hi).1
    simp only[As,Ag] at hi;obtain⟨y,hy,rfl⟩:=hi;cases c with
    | zero =>simp at hc;subst hc;simp only[CM,BF,aZ ii nN,List.getD,hy,A7];exact .v _
    | succ c=>simp at hc)
  rwa [hl] at this
 ·cases ha
def zl3 {x y:AV} (h:qo (fun _=>none) x=some y):y=x∧x.refs=[]:=by
 cases x with
 | pe=>simp[qo] at h
 | lsl=>simp[qo] at h
 | own=>simp[qo] at h
 | _ =>
  simp only[qo] at h;split at h
  ·rename_i e;exact⟨(Option.some.inj h).symm,Cj.1 e⟩
  ·cases h
def op_lit (h:SRel S A0 O w0 A σ w st tm) {t e:TypeId} {i:TypeInfo} {z:Value} {len:Nat} {ps:Array (Nat×Operand)} {l:List (Nat×AOpd)} (ho:o.op=.buildSlice t len ps) (hu:S.P.underlying t=some (.slice e)) (hi:S.P.info? e=some i) (hz:i.zero=some z)
  (bW:z.cells.size=i.size) (aO:0<i.size) (cu:i.size<=128) (aK:∀x∈z.cells.toList,zaB x=true) (hl:zd (fun (p:Nat×Operand)=>if p.1<len then (qB S p.2).map fun x=>(p.1,x) else none) ps.toList=some l)
  (hlen:len<=4096) (ha:aop (.lit i.size z.cells.toList len l) d st=some (v,aa)):w7 S A0 O w0 w tm df o v aa:=by
 simp only[aop] at ha;split at ha
 ·rename_i pcs fL;simp only[DM,DN] at ha;obtain⟨rfl,rfl⟩:=ha;obtain⟨a1,a2⟩:=zD hl;obtain⟨b1,b2⟩:=zD fL;have zr:=zjx (R:=VR0 S A w) (z:=z) (n:=len) (by omega) (fun x _=>.v x) (fun x hx=>zbo (aK x hx));rw[bW] at zr
  obtain⟨aE,f1,f2⟩:=zcG (R:=VR0 S A w) (z:=i.size) pcs (List.replicate len (z.cells.toList.map AV.v)) (ps.toList.map fun p=>(p.1,Act.eval ⟨tm,df⟩ p.2)) _ zr (by rw[Aq];omega)
   (fun j p r hj hr=>by
    obtain⟨q,hq,bP⟩:=b2 j p hj;obtain⟨q0,gP,en⟩:=a2 j q hq;simp only[As,gP,AQ,DM] at hr;subst hr;split at en
    ·rename_i aj;simp only[Ag] at en;obtain⟨x,hx,rfl⟩:=en;split at bP
     ·rename_i iy ki;split at bP
      ·rename_i cs an;split at bP
       ·rename_i aT;cases bP;have g:=h.ev (df:=df) hx;obtain⟨c1,c2,c3,c4⟩:=g.rel.cells ki;obtain⟨d1,d2⟩:=zD an;refine⟨rfl,by simpa using aj,aT,by simp only;omega,fun i a hi => ?_,c3⟩;obtain⟨x0,aC,aH⟩:=d2 i a hi;obtain⟨rfl,dp⟩:=zl3 aH;exact (c2 i a aC).to0 dp
       ·cases bP
      ·cases bP
     ·cases bP
    ·cases en)
  have ax:=run_bsl (P:=S.P) w t e len (ps.map fun (i,x)=>(i,Act.eval ⟨tm,df⟩ x)) aE i z hu hi hz (by
    have:len*i.size<=4096*128:=B7 hlen cu
    omega) (by rw[bW];simpa using f1)
  generalize ra:pcs.foldl (fun es p=>es.set p.1 p.2) (List.replicate len (z.cells.toList.map AV.v))=es at f2;have dH:es.length=len:=by
   have:∀(ps:List (Nat×List AV)) (es:List (List AV)),(ps.foldl (fun es p=>es.set p.1 p.2) es).length=es.length:=by
    intro ps
    induction ps with
    | nil=>intro es;rfl
    | cons p ps ih=>intro es;simp only[Be];rw[ih];simp
   rw[←ra,this];simp
  have hold:∀k,k<w.heap.size->(w.alloc (.cells aE e)).heap[k]? = w.heap[k]?:=fun k hk=>heap_alloc_old w _ k hk;have au:(w.alloc (.cells aE e)).heap[w.heap.size]? = some (.cells aE e (0,0)):=heap_alloc_new w _;have cg:KeepO (fun _=>False) w (w.alloc (.cells aE e)):=⟨rfl,rfl,rfl,by simp,fun k hk _=>hold k hk⟩;have mo:=h.grow (A':=fun c=>A c∨c=w.heap.size) cg (fun _ h=>.inl h) (fun c hc=>hc.imp id (fun e=>by omega)) (fun c hc=>hc.elim (fun hc=>by have:=h.Alt c hc;simp;omega) (fun e=>by simp;omega));have nS:RowRel (VR0 S (fun c=>A c∨c=w.heap.size) (w.alloc (.cells aE e))) i.size es aE:=f2.imp fun x v hx=>hx.mono (fun _ h=>.inl h) fun b hb=>hold b (h.Alt b hb);have cY:zas S (fun c=>A c∨c=w.heap.size) (fun _=>some w.heap.size) (w.alloc (.cells aE e)) 0 (.arr i.size es):=nS.blk rfl au;obtain⟨q0,⟨q1,_⟩|⟨b',vs,bT,q1,q2,q3,q4,q5⟩⟩:=cY
  ·cases q1
  ·cases q1;rw[au] at q2;cases q2;refine⟨.value (.slice (some ⟨w.heap.size,0,none⟩) len len),_,_,σ,by simp only[execOp,ho,Sem.run_bind,ax,Result.andThen_ok,Sem.run_pure],mo,.inl ⟨_,rfl,.of0 ?_,by simp[AV.refs]⟩⟩
   have:=VR0.sl (S:=S) (A:=fun c=>A c∨c=w.heap.size) (w:=w.alloc (.cells aE e)) (z:=i.size) (es:=es) (b:=w.heap.size) (o:=0) (cap:=len) (u:=fun j=>aE.getD j undef) (.inr rfl) (by rw[dH];exact Az _) q0
    (fun j hj=>by
     have h1:j<aE.size:=by omega
     simp only[World.cell?,au,AY];simp[Array.getD,h1]) (fun j hj=>q4 j hj) (fun ii ee c xx hi hc=>q5 ii ee c xx hi hc)
   rwa [dH] at this
 ·cases ha
def wN (h:SRel S A0 O w0 A σ w st tm) {A':Nat->Prop} (hA:∀b,A b->A' b) {x y:AV} {v:Value} (hv:VR S A σ w x v) (hs:qt st.hp x=some y)
  (hr:∀s b,σ s=some b->(s∈x.refs∨∃s'∈x.refs,eJ st.hp s'=false)->A' b):VR0 S A' w y v:=by
 unfold qt at hs;split at hs
 ·rename_i s off;split at hs
  ·rename_i cs hb;split at hs
   ·rename_i aJ an;cases hs;obtain⟨b,rfl,hσ⟩:=hv.pv_inv;obtain⟨b',vs,el,k1,k2,k3,k4⟩:=h.hp _ _ hb;obtain rfl:b'=b:=Option.some.inj (k1.symm.trans hσ);obtain⟨d1,d2⟩:=zD an;have all:∀s' b',σ s'=some b'->A' b':=fun s' b' ae=>hr s' b' ae (.inr ⟨s,by simp[AV.refs],by simp[eJ,hb]⟩);have:=VR0.ep (S:=S) (A:=A') (w:=w) (cs:=aJ) (off:=off) (b:=b') (o:=0) (u:=fun j=>vs.getD j undef) (all s b' hσ) (fun j hj=>by
     have:j<vs.size:=by omega
     simp[World.cell?,k2,this,Array.getD]) (fun j x hj=>by
     obtain⟨x0,aC,aH⟩:=d2 j x hj;exact (yw h hA (k4 j x0 aC) aH fun s' _ b'' ae=>all s' b'' ae).1)
    simpa using this
   ·cases hs
  ·cases hs
 ·rename_i cs;split at hs
  ·rename_i aJ an;cases hs;obtain⟨vs,rfl,k1,k2⟩:=hv.agg_inv;obtain⟨d1,d2⟩:=zD an;refine .agg (by omega) fun j x hj => ?_;obtain⟨x0,aC,aH⟩:=d2 j x hj;exact (yw h hA (k2 j x0 aC) aH fun s hs b hb=>hr s b hb (.inl (by rw[AV.refs];exact zh.2 ⟨x0,Ae aC,hs⟩))).1
  ·cases hs
 ·exact (yw h hA hv hs fun s ae b hb=>hr s b hb (.inl ae)).1
def zdE (h:SRel S A0 O w0 A σ w st tm) {A':Nat->Prop} (hA:∀b,A b->A' b) {x y:AV} {v:Value} (hv:VR S A σ w x v) (hs:zay st.hp x=some y)
  (hr:∀s b,σ s=some b->(s∈x.refs∨∃s'∈x.refs,eJ st.hp s'=false)->A' b):VR0 S A' w y v:=by
 have sub:∀ {cs:List AV} {x0:AV} {j:Nat},cs[j]? = some x0->∀s∈x0.refs,s∈AV.refsL cs:=fun hx s hs=>zh.2 ⟨_,Ae hx,hs⟩;unfold zay at hs;split at hs
 ·rename_i f caps;split at hs
  ·rename_i aJ an;cases hs;obtain⟨g,vs,rfl,k0,k1,k2⟩:=hv.fn_inv;obtain⟨d1,d2⟩:=zD an;refine .fn k0 (by omega) fun j x hj => ?_;obtain⟨x0,aC,aH⟩:=d2 j x hj;exact wN h hA (k2 j x0 aC) aH fun s b hb hh=>hr s b hb (by rw[AV.refs];exact hh.imp (sub aC s) fun⟨s',h1,h2⟩=>⟨s',sub aC s' h1,h2⟩)
  ·cases hs
 ·rename_i cs;split at hs
  ·rename_i aJ an;cases hs;obtain⟨vs,rfl,k1,k2⟩:=hv.tup_inv;obtain⟨d1,d2⟩:=zD an;refine .tup (by omega) fun j x hj => ?_;obtain⟨x0,aC,aH⟩:=d2 j x hj;exact wN h hA (k2 j x0 aC) aH fun s b hb hh=>hr s b hb (by rw[AV.refs];exact hh.imp (sub aC s) fun⟨s',h1,h2⟩=>⟨s',sub aC s' h1,h2⟩)
  ·cases hs
 ·rename_i cs;split at hs
  ·rename_i aJ an;cases hs;obtain⟨vs,rfl,k1,k2⟩:=hv.agg_inv;obtain⟨d1,d2⟩:=zD an;refine .agg (by omega) fun j x hj => ?_;obtain⟨x0,aC,aH⟩:=d2 j x hj;exact wN h hA (k2 j x0 aC) aH fun s b hb hh=>hr s b hb (by rw[AV.refs];exact hh.imp (sub aC s) fun⟨s',h1,h2⟩=>⟨s',sub aC s' h1,h2⟩)
  ·cases hs
 ·exact wN h hA hv hs hr
def wR {A':Nat->Prop} {w':World} {x:AV} {v:Value} (h:VR0 S A w x v) (hp:x.plain1=true):VR0 S A' w' x v:=by
 cases h with
 | bot=>exact .bot _
 | v=>exact .v _
 | @ifc t T y v h1 h2 =>
  cases y with
  | v x=>cases h2;exact .ifc h1 (.v _)
  | bot=>exact .ifc h1 (.bot _)
  | _=>simp[AV.plain1] at hp
 | _=>simp[AV.plain1] at hp
def zcs {A':Nat->Prop} {w':World} {x:AV} {v:Value} (h:VR0 S A w x v) (hp:x.plain2=true):VR0 S A' w' x v:=by
 by_cases hx:∃cs,x=.agg cs
 ·obtain⟨cs,rfl⟩:=hx;cases h with
  | agg h1 h2=>exact .agg h1 fun i x hx=>wR (h2 i x hx) (Af.1 hp x (Ae hx))
 ·refine wR h ?_;unfold AV.plain2 at hp;unfold AV.plain1;split at hp
  ·rfl
  ·rfl
  ·rfl
  ·rfl
  ·exact absurd ⟨_,rfl⟩ hx
  ·cases hp
def zil {A':Nat->Prop} {w':World} {x:AV} {v:Value} (h:VR0 S A w x v) (hp:x.plain=true):VR0 S A' w' x v:=by
 by_cases hx:∃cs,x=.agg cs
 ·obtain⟨cs,rfl⟩:=hx;cases h with
  | agg h1 h2=>exact .agg h1 fun i x hx=>wR (h2 i x hx) (Af.1 hp x (Ae hx))
 ·by_cases hy:∃cs,x=.tup cs
  ·obtain⟨cs,rfl⟩:=hy;cases h with
   | tup h1 h2=>exact .tup h1 fun i x hx=>zcs (h2 i x hx) (Af.1 hp x (Ae hx))
  ·refine wR h ?_;unfold AV.plain at hp;unfold AV.plain1;split at hp
   ·rfl
   ·rfl
   ·rfl
   ·rfl
   ·exact absurd ⟨_,rfl⟩ hx
   ·exact absurd ⟨_,rfl⟩ hy
   ·cases hp
def SRel.jpre (h:SRel S A0 O w0 A σ w st tm) (jr:JR S A0 O w0):JR S (fun b=>A b∨∃s,σ s=some b) (fun _=>False) w:=by
 have au:∀b,S.jg b->¬(w0.heap.size<=b∨O b):=fun b hb e=>e.elim (fun e=>by have:=jr.lt b hb;omega) (jr.no b hb);refine⟨S.jnK w0 w (fun b hb=>⟨jr.lt b hb,h.keep.block b (jr.lt b hb) (jr.no b hb)⟩) jr.jn,fun b hb=>AE (jr.lt b hb) h.keep.size,fun b hb ha => ?_,fun b hb e=>e,jr.ng⟩;rcases ha with ha|⟨s,hs⟩
 ·exact (h.Asub b ha).elim (jr.na b hb) (au b hb)
 ·exact au b hb (h.dom s b hs).2.2.2
def SRel.jpreA (h:SRel S A0 O w0 A σ w st tm) (jr:JR S A0 O w0):JR S A (fun _=>False) w:=(h.jpre jr).mono (fun _ h=>.inl h) fun _ h=>h
def SRel.reb (h:SRel S A0 O w0 A σ w st tm) (jr:JR S A0 O w0) {w':World} (hw:w.heap.size<=w'.heap.size) (hj:S.jn w'):SRel S A0 O (zfw S w0 w') A σ (zfw S w w') st tm∧JR S A0 O (zfw S w0 w'):=by
 have jp:=h.jpre jr;have hA:∀b,A b->(zfw S w w').heap[b]? = w.heap[b]?:=fun b hb=>yY fun e=>jp.na b e (.inl hb);have hσ:∀s b,σ s=some b->(zfw S w w').heap[b]? = w.heap[b]?:=fun s b hb=>yY fun e=>jp.na b e (.inr ⟨s,hb⟩);have cN:∀s,zcY σ σ w (zfw S w w') s:=fun s=>⟨rfl,fun b cs el hb hc=>⟨cs,by rw[hσ s b hb];exact hc,rfl⟩⟩;refine⟨⟨fun k=>(h.fr k).mono (fun _ h=>h) hA fun s _=>cN s,fun s blk hb=>(h.hp s blk hb).mono (fun _ h=>h) hA rfl (fun b hb=>hσ s b hb) fun s' _=>cN s',h.dang,h.dangV,fun s b hs => ?_,h.inj,fun b hb=>by rw[qe];exact h.Alt b hb,fun b hb=>by rw[qe];exact h.Asub b hb, ?_,h.kp.of fun s _ _=>⟨cN s,fun z es he=>⟨es,he,rfl⟩⟩,fun b hb=>by rw[qe];exact h.Olt.1 b hb,h.Olt.2.1, ?_⟩, ?_⟩
 ·rw[qe,qe];exact h.dom s b hs
 ·refine⟨h.keep.os,h.keep.tape,h.keep.output,by rw[qe,qe];exact h.keep.size,fun k hk hO => ?_⟩;rw[qe] at hk;have cx:=AE hk h.keep.size;by_cases c:S.jg k
  ·rw[zgK c hk (AE cx hw),zgK c cx (AE cx hw)]
  ·rw[yY c,yY c];exact h.keep.block k hk hO
 ·exact h.Olt.2.2.keep (O:=S.jg) jr.ng ⟨rfl,rfl,rfl,by rw[qe];exact Az _,fun k _ hO=>yY hO⟩
 ·exact⟨S.jnK w' _ (fun b hb=>⟨AE (AE (jr.lt b hb) h.keep.size) hw,zgK hb (jr.lt b hb) (AE (AE (jr.lt b hb) h.keep.size) hw)⟩) hj,fun b hb=>by rw[qe];exact jr.lt b hb,jr.na,jr.no,jr.ng⟩
def zbd (S:Seat) (A0:Nat->Prop) (O:Hnd) (w0:World) (A:Nat->Prop) (σ:Nat->Option Nat) (w:World) (st:ASt) (tm:Array Value):Prop :=
 ∃w1,RebR S w0 w1∧JR S A0 O w1∧SRel S A0 O w1 A σ w st tm
def zap (S:Seat) (A:Nat->Prop) (w:World) (b?:Option Nat) (x:AV) (v:Value):Prop :=
 match x with
 | .own z es=>qx S A w b? z es v
 | x=>b? = none∧VR0 S A w x v
def qy (A:Nat->Prop) (β:Nat->Option Nat) (w w':World) (b:Nat):Prop:=(A b∨w.heap.size<=b)∧b<w'.heap.size∧∀i,β i≠some b
def zbk (S:Seat) (A:Nat->Prop) (w:World) (β:Nat->Option Nat) (r:AV) (v:Value):Prop :=
 match r with
 | .tup rs=>∃vs,v=.tuple vs∧rs.length=vs.size∧∀(i:Nat) (x:AV),rs[i]? = some x->zap S A w (β i) x (vs.getD i undef)
 | r=>zap S A w (β 0) r v
def zdm (S:Seat) (A:Nat->Prop) (w w':World) (r:AV) (v:Value):Prop :=
 ∃β:Nat->Option Nat,(∀i b,β i=some b->w.heap.size<=b∧b<w'.heap.size)∧(∀i j b,β i=some b->β j=some b->i=j)∧zbk S (qy A β w w') w' β r v
def zdY (S:Seat) (g:FuncId) (args:List AV) (r:AV):Prop :=
 ∀(A:Nat->Prop) (w:World) (vs:Array Value),vs.size=args.length->((∀b,A b->b<w.heap.size)∧Inv S w)->(∀(i:Nat) (x:AV),args[i]? = some x->VR0 S A w x (vs.getD i undef)) ->
  Calls S.P g vs w fun e w'=>∃v,e=.returned v∧KeepO (fun _=>False) w w'∧zdm S A w w' r v
def zfn (S:Seat) (g:FuncId) (args:List AV) (r:AV):Prop :=
 ∀(A:Nat->Prop) (w:World) (vs:Array Value),vs.size=args.length->((∀b,A b->b<w.heap.size)∧Inv S w)->JR S A (fun _=>False) w->(∀(i:Nat) (x:AV),args[i]? = some x->VR0 S A w x (vs.getD i undef)) ->
  Calls S.P g vs w fun e w'=>∃v,e=.returned v∧KeepO S.jg w w'∧S.jn w'∧zdm S A w w' r v
def zdY.up {g:FuncId} {args:List AV} {r:AV} (h:zdY S g args r):zfn S g args r:=by intro A w vs hl hA hJ ha;refine (h A w vs hl hA ha).mono ?_;rintro e w' ⟨v,he,hk,hr⟩;exact⟨v,he,⟨hk.os,hk.tape,hk.output,hk.size,fun k aA _=>hk.block k aA fun e=>e⟩,hJ.after hk,hr⟩
def zdm.same {w1 w':World} {r:AV} {v:Value} (hs:w1.heap.size=w.heap.size) (h:zdm S A w w' r v):zdm S A w1 w' r v:=by
 obtain⟨β,h1,h2,h3⟩:=h;have e:qy A β w1 w'=qy A β w w':=by funext b;simp only[qy,hs]
 exact⟨β,fun i b hb=>by rw[hs];exact h1 i b hb,h2,by rw[e];exact h3⟩
def zdm.reb {w':World} {r:AV} {v:Value} (h:zdm S A w w' r v):zdm S A (zfw S w w') w' r v:=h.same qe
def zbc (ι:Nat->Option Nat) (b:Nat):Prop:=∃i,ι i=some b
def ym (ι:Nat->Option Nat) (outs:zdy) (b:Nat):Prop:=∃i,ι i=some b∧∀es,(i,es)∉outs
def zcX (S:Seat) (args:List AV) (ι:Nat->Option Nat) (vs:Array Value) (w w':World) (outs:zdy) (A':Nat->Prop):Prop :=
 ∀(i:Nat) (es:List (List AV)) (z:Nat) (bm:List (List AV)),(i,es)∈outs->args[i]? = some (.own z bm)->es.length=bm.length∧qx S A' w' (ι i) z es (vs.getD i undef) ∧
  ∀b cs el,ι i=some b->w.heap[b]? = some (.cells cs el (0,0))->∃aJ,w'.heap[b]? = some (.cells aJ el (0,0))∧aJ.size=cs.size
def zjv (S:Seat) (A E:Nat->Prop) (T:(Nat->Prop)->Prop) (w w':World) (r:AV) (v:Value):Prop :=
 ∃β:Nat->Option Nat,(∀i b,β i=some b->(w.heap.size<=b∨E b)∧b<w'.heap.size)∧(∀i j b,β i=some b->β j=some b->i=j)∧T (qy (fun b=>A b∨E b) β w w')∧zbk S (qy (fun b=>A b∨E b) β w w') w' β r v
def zgm (S:Seat) (g:FuncId) (args:List AV) (r:AV) (outs:zdy):Prop :=
 ∀(A:Nat->Prop) (w:World) (vs:Array Value) (ι:Nat->Option Nat),vs.size=args.length->((∀b,A b->b<w.heap.size)∧Inv S w) ->
  ((∀i b,ι i=some b->i<args.length∧b<w.heap.size∧¬A b∧∀p∈S.globB,p≠b)∧∀i j b,ι i=some b->ι j=some b->i=j) ->
  (∀(i:Nat) (x:AV),args[i]? = some x->zap S A w (ι i) x (vs.getD i undef)) ->
  Calls S.P g vs w fun e w'=>∃v,e=.returned v∧KeepO (zbc ι) w w'∧zjv S A (ym ι outs) (zcX S args ι vs w w' outs) w w' r v
def wY (S:Seat) (g:FuncId) (args:List AV) (r:AV) (outs:zdy):Prop :=
 ∀(A:Nat->Prop) (w:World) (vs:Array Value) (ι:Nat->Option Nat),vs.size=args.length->((∀b,A b->b<w.heap.size)∧Inv S w) ->
  ((∀i b,ι i=some b->i<args.length∧b<w.heap.size∧¬A b∧∀p∈S.globB,p≠b)∧∀i j b,ι i=some b->ι j=some b->i=j)->JR S A (zbc ι) w ->
  (∀(i:Nat) (x:AV),args[i]? = some x->zap S A w (ι i) x (vs.getD i undef)) ->
  Calls S.P g vs w fun e w'=>∃v,e=.returned v∧KeepO (fun b=>zbc ι b∨S.jg b) w w'∧S.jn w'∧zjv S A (ym ι outs) (zcX S args ι vs w w' outs) w w' r v
def zgm.up {g:FuncId} {args:List AV} {r:AV} {outs:zdy} (h:zgm S g args r outs):wY S g args r outs:=by intro A w vs ι hl hA hι hJ ha;refine (h A w vs ι hl hA hι ha).mono ?_;rintro e w' ⟨v,he,hk,hr⟩;exact⟨v,he,⟨hk.os,hk.tape,hk.output,hk.size,fun k aA hn=>hk.block k aA fun e=>hn (.inl e)⟩,S.jnK w w' (fun b hb=>⟨hJ.lt b hb,hk.block b (hJ.lt b hb) (hJ.no b hb)⟩) hJ.jn,hr⟩
def qx.mono {A A':Nat->Prop} (hA:∀b,A b->A' b) {b?:Option Nat} {z:Nat} {es:List (List AV)} {v:Value} (h:qx S A w b? z es v):qx S A' w b? z es v:=by
 obtain⟨h0,h1|⟨b,cap,vs,el,h1,h2,h3,h4,h5,h6,h7,h8⟩⟩:=h
 ·exact⟨h0,.inl h1⟩
 ·exact⟨h0,.inr ⟨b,cap,vs,el,h1,h2,h3,h4,h5,h6,h7,fun i e c x hi hc=>(h8 i e c x hi hc).mono hA fun _ _=>rfl⟩⟩
def zap.mono {A A':Nat->Prop} (hA:∀b,A b->A' b) {b?:Option Nat} {x:AV} {v:Value} (h:zap S A w b? x v):zap S A' w b? x v:=by
 cases x with
 | own z es=>exact qx.mono hA h
 | _=>exact⟨h.1,h.2.mono hA fun _ _=>rfl⟩
def zbk.mono {A A':Nat->Prop} (hA:∀b,A b->A' b) {β:Nat->Option Nat} {r:AV} {v:Value} (h:zbk S A w β r v):zbk S A' w β r v:=by
 cases r with
 | tup rs=>obtain⟨vs,h1,h2,h3⟩:=h;exact⟨vs,h1,h2,fun i x hx=>(h3 i x hx).mono hA⟩
 | _=>unfold zbk at h ⊢;exact zap.mono hA h
def qY {x:AV} {v:Value} (h:VR0 S A w x v):zap S A w none x v:=by
 cases x with
 | own z es=>cases h
 | _=>exact⟨rfl,h⟩
def kH {b?:Option Nat} {x:AV} {v:Value} (h:zap S A w b? x v) (hx:zG x=false):b? = none∧VR0 S A w x v:=by
 cases x with
 | own z es=>simp[zG] at hx
 | _=>exact h
def yB {g:FuncId} {args:List AV} {r:AV} (h:zfn S g args r) (ha:∀x∈args,zG x=false):wY S g args r []:=by intro A w vs ι hl hA hι hJ hargs;refine (h A w vs hl hA (hJ.mono (fun _ h=>h) fun _ h=>h.elim) fun i x hx=>(kH (hargs i x hx) (ha x (Ae hx))).2).mono ?_;rintro e w' ⟨v,he,hk,hj,β,hβ,ay,hr⟩;refine⟨v,he,⟨hk.os,hk.tape,hk.output,hk.size,fun k aA hn=>hk.block k aA (fun e=>hn (.inr e))⟩,hj,β,fun i b hb=>⟨.inl (hβ i b hb).1,(hβ i b hb).2⟩,ay,(fun i es z bm hm=>by cases hm),hr.mono fun b hb=>⟨hb.1.imp .inl id,hb.2⟩⟩
def zgL {g:FuncId} {args:List AV} {r:AV} (h:zdY S g args r) (ha:∀x∈args,zG x=false):wY S g args r []:=yB h.up ha
def wY.old {g:FuncId} {args:List AV} {r:AV} (h:wY S g args r []) (ha:∀x∈args,zG x=false):zfn S g args r:=by
 intro A w vs hl hA hJ hargs;refine (h A w vs (fun _=>none) hl hA ⟨by simp,by simp⟩ (hJ.mono (fun _ h=>h) fun b ⟨i,e⟩=>by cases e) fun i x hx=>qY (hargs i x hx)).mono ?_;rintro e w' ⟨v,he,hk,hj,β,hβ,ay,_,hr⟩;have hE:∀b,¬ym (fun _=>none) [] b:=fun b ⟨i,h,_⟩=>by cases h
 refine⟨v,he,⟨hk.os,hk.tape,hk.output,hk.size,fun k aA hn=>hk.block k aA (fun e=>e.elim (fun⟨i,e⟩=>by cases e) hn)⟩,hj,β,fun i b hb=>⟨(hβ i b hb).1.resolve_right (hE b),(hβ i b hb).2⟩,ay,hr.mono fun b hb=>⟨hb.1.imp (fun h=>h.resolve_right (hE b)) id,hb.2⟩⟩
structure Plain (S:Seat):Prop where
 g:∀b,¬S.jg b
 n:∀w,S.jn w
def wY.old0 (hP:Plain S) {g:FuncId} {args:List AV} {r:AV} (h:wY S g args r []) (ha:∀x∈args,zG x=false):zdY S g args r:=by intro A w vs hl hA hargs;refine (h.old ha A w vs hl hA (.none hP.g hP.n _ _ _) hargs).mono ?_;rintro e w' ⟨v,he,hk,_,hr⟩;exact⟨v,he,⟨hk.os,hk.tape,hk.output,hk.size,fun k aA _=>hk.block k aA (hP.g k)⟩,hr⟩
def zjJ {hp:Nat->Option Blk} {x y:AV} (h:qo hp x=some y):zG y=false:=by
 cases x with
 | own z es=>simp[qo] at h
 | pe s z i off=>simp only[qo] at h;repeat' split at h
                 all_goals (first|(cases h;rfl)|cases h)
 | lsl s z off len=>simp only[qo] at h;repeat' split at h
                    all_goals (first|(cases h;rfl)|cases h)
 | _=>simp only[qo] at h;repeat' split at h
      all_goals (first|(cases h;rfl)|cases h)
def zjI {hp:Nat->Option Blk} {x y:AV} (h:qt hp x=some y):zG y=false:=by
 cases x with
 | pv s off=>simp only[qt] at h;repeat' split at h
             all_goals (first|(cases h;rfl)|cases h)
 | agg cs=>simp only[qt] at h;repeat' split at h
           all_goals (first|(cases h;rfl)|cases h)
 | _=>simp only[qt] at h;exact zjJ h
def wM {hp:Nat->Option Blk} {x y:AV} (h:zay hp x=some y):zG y=false:=by
 cases x with
 | fn f cs=>simp only[zay] at h;repeat' split at h
            all_goals (first|(cases h;rfl)|cases h)
 | tup cs=>simp only[zay] at h;repeat' split at h
           all_goals (first|(cases h;rfl)|cases h)
 | agg cs=>simp only[zay] at h;repeat' split at h
           all_goals (first|(cases h;rfl)|cases h)
 | _=>simp only[zay] at h;exact zjI h
def zb (S:Seat):Rets:=⟨fun f args r outs=>∀g,ql g S.fns=some f->wY S g args r outs,fun st st1=>∀(A0:Nat->Prop) (O:Hnd) (w0:World) (A:Nat->Prop) (σ:Nat->Option Nat) (w:World) (tm:Array Value),SRel S A0 O w0 A σ w st tm->∃A' σ',SRel S A0 O w0 A' σ' w st1 tm⟩
end
end
section
open Go Go.RowKit
section
variable {S:Seat} {A0:Nat->Prop} {O:Hnd} {w0:World} {A:Nat->Prop} {σ:Nat->Option Nat} {w:World} {st aa:ASt} {tm:Array Value} {df:List Deferred} {o:Oper} {v:AV} {d:Nat}
def SRel.addSite (h:SRel S A0 O w0 A σ w st tm) {d:Nat} (hd:st.hp d=none) {b?:Option Nat} {blk:Blk} (hr:blk.refs=[]) (hb:zas S A (upd σ d b?) w d blk)
  (hq:∀b,b? = some b->b<w.heap.size∧¬A b∧(w0.heap.size<=b∨O b)∧∀s,σ s≠some b):SRel S A0 O w0 A (upd σ d b?) w (st.setH d (some blk)) tm:=by
 have cN:∀s,st.hp s≠none->zcY σ (upd σ d b?) w w s:=fun s hs=>⟨gH _ _ _ (fun e=>hs (e▸hd)),fun b cs el _ hb=>⟨cs,hb,rfl⟩⟩;refine⟨fun k=>(h.fr k).mono (fun _ h=>h) (fun _ _=>rfl) fun s hs=>cN s (h.dang k s hs),fun s b hs => ?_,fun k s hs => ?_,fun s cs hs s' ae => ?_,fun s b hs => ?_,fun s s' b h1 h2 => ?_,h.Alt,h.Asub,h.keep,h.kp.same cN fun s z es he _=>by
  have ah:s≠d:=fun e=>by rw[e,hd] at he;cases he
  simp only[ASt.setH,upd,if_neg ah];exact he,h.Olt⟩
 ·simp only[ASt.setH,upd] at hs;split at hs
  ·rename_i e;subst e;cases hs;exact hb
  ·rename_i ah;refine (h.hp s b hs).mono (fun _ h=>h) (fun _ _=>rfl) (gH _ _ _ ah) (fun _ _=>rfl) fun s' ae=>cN s' ?_;cases b with
   | var cs=>exact h.dangV s cs hs s' (by rw[Blk.refs] at ae;exact ae)
   | arr z es=>simp[Blk.refs] at ae
 ·simp only[ASt.setH,upd];split
  ·simp
  ·exact h.dang k s hs
 ·simp only[ASt.setH,upd] at hs ⊢;split
  ·simp
  ·split at hs
   ·cases hs;rw[Blk.refs] at hr;rw[hr] at ae;cases ae
   ·exact h.dangV s cs hs s' ae
 ·simp only[upd] at hs;split at hs
  ·rename_i e;subst e;obtain⟨k1,k2,k3,k4⟩:=hq b hs;exact⟨by simp[ASt.setH,upd],k1,k2,k3⟩
  ·rename_i ah;obtain⟨k1,k2⟩:=h.dom s b hs;exact⟨by simp[ASt.setH,upd,ah];exact k1,k2⟩
 ·simp only[upd] at h1 h2;split at h1
  ·rename_i e1;split at h2
   ·rename_i e2;exact e1.trans e2.symm
   ·exact absurd h2 ((hq b h1).2.2.2 s')
  ·split at h2
   ·exact absurd h1 ((hq b h2).2.2.2 s)
   ·exact h.inj s s' b h1 h2
def yp {b?:Option Nat} {z:Nat} {es:List (List AV)} {rv:Value} (h:qx S A w b? z es rv) {σ':Nat->Option Nat} {d:Nat} (hσ:σ' d=b?) :
  VR S A σ' w (.lsl d z 0 es.length) rv∧zas S A σ' w d (.arr z es):=by
 obtain⟨h0,⟨h1,rfl,rfl⟩|⟨b,cap,vs,el,h1,rfl,h2,h3,h4,h5,h6,h7⟩⟩:=h
 ·exact⟨.lslnil (hσ.trans h1),h0,.inl ⟨hσ.trans h1,rfl⟩⟩
 ·refine⟨.lsl (hσ.trans h1) h2 (fun _=>by simp) h4 (by simpa using h5) h3,h0,.inr ⟨b,vs,el,hσ.trans h1,h4,AD (AH _ h2) h5,h6,h7⟩⟩
def zcD {β:Nat->Option Nat} {us:Array Value} {d:Nat} (hβ:∀i b,β i=some b->b<w.heap.size∧¬A b∧(w0.heap.size<=b∨O b)) (ay:∀i j b,β i=some b->β j=some b->i=j) :
  ∀(rs:List AV) (i:Nat) {σ:Nat->Option Nat} {st:ASt} {ys:List AV} {aa:ASt},SRel S A0 O w0 A σ w st tm->(∀(j:Nat) (x:AV),rs[j]? = some x->zap S A w (β (i+j)) x (us.getD (i+j) undef)) ->
   (∀s b k,σ s=some b->i<=k->β k≠some b)->zdq d i rs st=some (ys,aa) ->
   ∃σ',SRel S A0 O w0 A σ' w aa tm∧ys.length=rs.length∧(∀(j:Nat) (y:AV),ys[j]? = some y->Got S A σ' w aa y (us.getD (i+j) undef))∧∀s,st.hp s≠none->σ' s=σ s∧aa.hp s≠none
 | [],i,σ,st,ys,aa,h,_,_,hi=>by
  simp only[zdq,DM,DN] at hi;obtain⟨rfl,rfl⟩:=hi;exact⟨σ,h,rfl,by simp,fun s hs=>⟨rfl,hs⟩⟩
 | x::r,i,σ,st,ys,aa,h,ha,hd,hi=>by
  have eS:∀(j:Nat) (x:AV),r[j]? = some x->zap S A w (β (i+1+j)) x (us.getD (i+1+j) undef):=fun j y hj=>by
   have:=ha (j+1) y (by simpa using hj)
   rwa [show i+(j+1)=i+1+j by omega] at this
  have h0:=ha 0 x rfl;simp only[BF] at h0;by_cases hx:∃z es,x=.own z es
  ·obtain⟨z,es,rfl⟩:=hx;simp only[zdq] at hi;split at hi
   ·rename_i bU lL hn aX;simp only[DM,DN] at hi;obtain⟨rfl,rfl⟩:=hi;have nR:qx S A w (β i) z es (us.getD i undef):=h0;obtain⟨v1,v2⟩:=yp nR (σ':=upd σ (d+10000*(i+1)) (β i)) (qD _ _ _);have h1:=h.addSite hn (b?:=β i) (blk:=.arr z es) rfl v2 fun b hb=>⟨(hβ i b hb).1,(hβ i b hb).2.1,(hβ i b hb).2.2,fun s hs=>hd s b i hs (Az _) hb⟩;obtain⟨σ',k1,k2,k3,k4⟩:=zcD hβ ay r (i+1) h1 eS (fun s b k hs hk hb=>by
     simp only[upd] at hs;split at hs
     ·have:=ay i k b hs hb;omega
     ·exact hd s b k hs (by omega) hb) aX
    obtain⟨q1,q2⟩:=k4 (d+10000*(i+1)) (by simp[ASt.setH,upd]);refine⟨σ',k1,by simp[k2],fun j y hj => ?_,fun s hs => ?_⟩
    ·cases j with
     | zero =>
      simp at hj;subst hj;refine⟨v1.mono (fun _ h=>h) (fun _ _=>rfl) fun s hs => ?_,fun s hs => ?_⟩
      ·rw[AV.refs,Ah] at hs;subst hs;exact⟨q1,fun b cs el _ hb=>⟨cs,hb,rfl⟩⟩
      ·rw[AV.refs,Ah] at hs;subst hs;exact q2
     | succ j =>
      simp at hj;have:=k3 j y (by simpa using hj)
      rwa [show i+1+j=i+(j+1) by omega] at this
    ·have ah:s≠d+10000*(i+1):=fun e=>hs (e▸hn);obtain⟨e1,e2⟩:=k4 s (by simp[ASt.setH,upd,ah];exact hs);exact⟨e1.trans (gH _ _ _ ah),e2⟩
   ·cases hi
  ·have nR:β i=none∧VR0 S A w x (us.getD i undef):=by
    cases x with
    | own z es=>exact absurd ⟨z,es,rfl⟩ hx
    | _=>exact h0
   have aQ:∃bU,zdq d (i+1) r st=some (bU,aa)∧ys=x::bU:=by
    cases x with
    | own z es=>exact absurd ⟨z,es,rfl⟩ hx
    | _ =>
     simp only[zdq] at hi;split at hi
     ·rename_i bU lL aX;simp only[DM,DN] at hi;obtain⟨rfl,rfl⟩:=hi;exact⟨_,aX,rfl⟩
     ·cases hi
   obtain⟨bU,aX,rfl⟩:=aQ;obtain⟨σ',k1,k2,k3,k4⟩:=zcD hβ ay r (i+1) h eS (fun s b k hs hk=>hd s b k hs (by omega)) aX;refine⟨σ',k1,by simp[k2],fun j y hj => ?_,k4⟩;cases j with
   | zero =>simp at hj;subst hj;exact⟨.of0 nR.2,fun s hs=>(jK nR.2 s hs).elim⟩
   | succ j =>
    simp at hj;have:=k3 j y (by simpa using hj)
    rwa [show i+1+j=i+(j+1) by omega] at this
def zeA (hg:SRel S A0 O w0 A σ w st tm) {β:Nat->Option Nat} (hβ':∀i b,β i=some b->b<w.heap.size∧¬A b∧(w0.heap.size<=b∨O b)) (ay:∀i j b,β i=some b->β j=some b->i=j)
  (lq:∀s b k,σ s=some b->β k≠some b) {r:AV} {rv:Value} (hr:zbk S A w β r rv) {d:Nat} (hi:imp d r st=some (v,aa)) :
  ∃σ',SRel S A0 O w0 A σ' w aa tm∧Got S A σ' w aa v rv:=by
 have plain:VR0 S A w r rv->imp d r st=some (r,st)->∃σ',SRel S A0 O w0 A σ' w aa tm∧Got S A σ' w aa v rv:=(by intro hv he;rw[he] at hi;simp only[DM,DN] at hi;obtain⟨rfl,rfl⟩:=hi;exact⟨_,hg,.of0 hv,fun s hs=>(jK hv s hs).elim⟩);cases r with
 | own z es =>
  simp only[imp] at hi;split at hi
  ·rename_i hn;simp only[DM,DN] at hi;obtain⟨rfl,rfl⟩:=hi;have bO:qx S A w (β 0) z es rv:=hr;obtain⟨v1,v2⟩:=yp bO (σ':=upd σ d (β 0)) (qD _ _ _);exact⟨_,hg.addSite hn (b?:=β 0) (blk:=.arr z es) rfl v2 fun b hb=>⟨(hβ' 0 b hb).1,(hβ' 0 b hb).2.1,(hβ' 0 b hb).2.2,fun s hs=>lq s b 0 hs hb⟩,v1,fun s hs=>by
    rw[AV.refs,Ah] at hs;subst hs;simp[ASt.setH,upd]⟩
  ·cases hi
 | tup rs =>
  obtain⟨us,rfl,hl,ha⟩:=hr;simp only[imp] at hi;split at hi
  ·rename_i ys lL aX;simp only[DM,DN] at hi;obtain⟨rfl,rfl⟩:=hi;obtain⟨σ',k1,k2,k3,k4⟩:=zcD (us:=us) hβ' ay rs 0 hg (by simpa using ha) (fun s b k hs _=>lq s b k hs) aX;refine⟨σ',k1,.tup (by omega) fun i x hx=>by simpa using (k3 i x hx).rel,fun s hs => ?_⟩;rw[AV.refs,zh] at hs;obtain⟨x,hx,hs⟩:=hs;obtain⟨i,hi⟩:=AA.1 hx;exact (k3 i x hi).dang s hs
  ·cases hi
 | _=>unfold zbk at hr;exact plain hr.2 rfl
def imp_sound (h:SRel S A0 O w0 A σ w st tm) {w':World} (hk:KeepO (fun _=>False) w w') {r:AV} {rv:Value} (hr:zdm S A w w' r rv) {d:Nat} (hi:imp d r st=some (v,aa)) :
  ∃A' σ',SRel S A0 O w0 A' σ' w' aa tm∧Got S A' σ' w' aa v rv:=by
 obtain⟨β,hβ,ay,hr⟩:=hr
 have hg:SRel S A0 O w0 (qy A β w w') σ w' st tm:=h.grow hk
  (fun b hb=>⟨.inl hb,AE (h.Alt b hb) hk.size,fun i e=>by have:=(hβ i b e).1;have:=h.Alt b hb;omega⟩) (fun b hb=>hb.1) (fun b hb=>hb.2.1)
 obtain⟨σ',k⟩:=zeA hg (fun i b hb=>⟨(hβ i b hb).2,fun hh=>hh.2.2 i hb,.inl (AD h.keep.size (hβ i b hb).1)⟩) ay
  (fun s b k hs hb=>by have:=(h.dom s b hs).2.1;have:=(hβ k b hb).1;omega) hr hi
 exact⟨_,σ',k⟩
def zaA {hp:Nat->Option Blk}:∀(i:Nat) (args:List AV),zT hp [] i args=zd (zay hp) args
 | _,[]=>rfl
 | i,x::r=>by
  have:=zaA (hp:=hp) (i+1) r;simp only[zT,zA,CC,DK,Dx,Au,if_false,BO,if_true,zd,this];cases zay hp x<;>cases zd (zay hp) r<;>rfl
def zdd:∀(i:Nat) (args:List AV),z8 [] i args=[]
 | _,[]=>rfl
 | i,x::r=>by simp[z8,zA,zdd (i+1) r]
def jh:∀(i:Nat) (args:List AV),zM [] i args=[]
 | _,[]=>rfl
 | i,x::r=>by simp[zM,zA,jh (i+1) r]
def zks (h:SRel S A0 O w0 A σ w st tm) (jr:JR S A0 O w0) {args:List AV} {vs:Array Value} (hl:vs.size=args.length) (hg:∀(i:Nat) (x:AV),args[i]? = some x->Got S A σ w st x (vs.getD i undef))
  {g f:Nat} (hf:ql g S.fns=some f) {frz:Bool} (hc:zbE (zb S) frz [] f args d st v aa) :
  Calls S.P g vs w fun e w'=>∃rv A' σ' w1,e=.returned rv∧RebR S w0 w1∧JR S A0 O w1∧SRel S A0 O w1 A' σ' w' aa tm∧Got S A' σ' w' aa v rv:=by
 obtain⟨ak,r,outs,st1,ai,p1,p2,bo,p4,⟨p7,p8,p5⟩,p6⟩:=hc;obtain rfl:outs=[]:=by simpa[jx] using p8
 rw[jh] at p5 p6;simp only[ASt.dropL,zab,DM] at p5;subst p5;simp only[impE] at p6;rw[zaA] at p1;have gO:zfn S g ak r:=(bo g hf).old fun x hx=>(by obtain⟨i,hi⟩:=AA.1 hx;obtain⟨x0,_,aH⟩:=(zD p1).2 i x hi;exact wM aH);obtain⟨a1,a2⟩:=zD p1;simp only[BO,if_true] at p4;have sub:∀ {x0:AV} {j:Nat},args[j]? = some x0->∀s∈x0.refs,s∈AV.refsL args:=fun hx s hs=>zh.2 ⟨_,Ae hx,hs⟩
 -- what is common
 have fin:∀(A1:Nat->Prop) (σ1:Nat->Option Nat),SRel S A0 O w0 A1 σ1 w st1 tm->(∀(i:Nat) (x:AV),ak[i]? = some x->VR0 S A1 w x (vs.getD i undef)) ->
   Calls S.P g vs w fun e w'=>∃rv A' σ' w1,e=.returned rv∧RebR S w0 w1∧JR S A0 O w1∧SRel S A0 O w1 A' σ' w' aa tm∧Got S A' σ' w' aa v rv:=by
  intro A1 σ1 h1 ha;refine (gO A1 w vs (by omega) ⟨h1.Alt,h1.inv⟩ (h1.jpreA jr) ha).mono fun e w' ⟨rv,he,hk,hj,hr⟩ => ?_;obtain⟨q1,q2⟩:=h1.reb jr hk.size hj;obtain⟨A',σ',k1,k2⟩:=imp_sound q1 hk.rebN hr.reb p6;exact⟨rv,A',σ',_,he,zef,q2,k1,k2⟩
 unfold settle at p4;split at p4
 ·rename_i iq;simp only[DM] at p4;subst p4;by_cases gw:AV.refsL args=[]
  ·exact fin A σ h fun i x hi=>by
    obtain⟨x0,aC,aH⟩:=a2 i x hi;have oU:x0.refs=[]:=AF.2 fun s hs=>by have:=sub aC s hs;rw[gw] at this;cases this
    exact zdE h (fun _ h=>h) (hg i x0 aC).rel aH fun s b hb hh=>by rw[oU] at hh;simp at hh
  ·have fx:r.plain=true:=iq.resolve_right gw;rw[imp_plain fx] at p6;simp only[DM,DN] at p6;obtain⟨rfl,rfl⟩:=p6;refine (gO (fun b=>A b∨∃s,σ s=some b) w vs (by omega) ⟨fun b hb=>hb.elim (h.Alt b) fun⟨s,hs⟩=>(h.dom s b hs).2.1,h.inv⟩ (h.jpre jr) fun i x hi => ?_).mono fun e w' ⟨rv,he,hk,hj,hr⟩ => ?_
   ·obtain⟨x0,aC,aH⟩:=a2 i x hi;exact zdE h (fun _ h=>.inl h) (hg i x0 aC).rel aH fun s b hb _=>.inr ⟨s,hb⟩
   ·obtain⟨q1,q2⟩:=h.reb jr hk.size hj;have mo:=q1.grow hk.rebN (fun _ h=>h) (fun _ h=>.inl h) (fun b hb=>AE (h.Alt b hb) hk.size);have hv:VR0 S A w' r rv:=by
     obtain⟨β,_,_,hr⟩:=hr;cases r with
     | own z es=>simp[AV.plain] at fx
     | tup rs =>
      obtain⟨us,rfl,hl,ha⟩:=hr;refine .tup hl fun i x hx => ?_;have dp:=Af.1 fx x (Ae hx);have nQ:=ha i x hx;cases x with
      | own z es=>simp[AV.plain2] at dp
      | _=>exact zcs nQ.2 dp
     | _=>exact zil hr.2 fx
    exact⟨rv,A,σ,_,he,zef,q2,mo,.of0 hv,fun s hs=>(jK hv s hs).elim⟩
 ·split at p4
  ·rename_i iq iW;simp only[DM] at p4;subst p4;obtain⟨A1,σ1,h1,m1,m2⟩:=h.freezeL (AV.refsL args) iW.2.2;have da:∀s∈AV.refsL args,eJ st.hp s=true:=fun s hs=>Af.1 iW.2.1 s hs;exact fin A1 σ1 h1 fun i x hi=>by
    obtain⟨x0,aC,aH⟩:=a2 i x hi;refine zdE h m1 (hg i x0 aC).rel aH fun s b hb hh => ?_;rcases hh with hh|⟨s',h1,h2⟩
    ·exact m2 s (sub aC s hh) b (da s (sub aC s hh)) hb
    ·rw[da s' (sub aC s' h1)] at h2;cases h2
  ·cases p4
end
def zZ (S : Seat) : Prop := ∀ g id, ql g S.fns = some id → ∃ fn, S.P.funcs[g]? = some fn ∧ fn.body.isSome = true ∧ (fn.name == "runtime.NumGoroutine") = false
def s8 {S:Seat} (hS:zZ S) {g id:Nat} (hg:ql g S.fns=some id) (args:Array Value) (w:World):(callFunc g args).run S.P w=.ok (.enter g args) w:=by
 obtain⟨fn,h1,h2,h3⟩:=hS g id hg;cases hb:fn.body with
 | none=>rw[hb] at h2;cases h2
 | some c =>
  have kv : ¬ fn.name = "runtime.NumGoroutine" := by simpa using h3
  simp[callFunc,h1,kv,hb]
end
section
open Go Go.RowKit
section
variable {S:Seat} {A0:Nat->Prop} {O:Hnd} {w0:World} {A:Nat->Prop} {σ:Nat->Option Nat} {w:World} {st aa:ASt} {tm:Array Value} {df:List Deferred} {o:Oper} {v:AV} {d:Nat}
def zin (h:SRel S A0 O w0 A σ w st tm) {s z:Nat} {es:List (List AV)} {v:Value} (hv:VR S A σ w (.lsl s z 0 es.length) v) (hb:st.hp s=some (.arr z es)):qx S A w (σ s) z es v:=by
 obtain⟨b0,bb⟩:=h.hp s _ hb;refine⟨b0, ?_⟩;rcases hv.lsl_inv with⟨_,q2,q3,q4⟩|⟨b,o,cap,cs,el,e1,q0,q1,q2,q3,q4,q5⟩
 ·exact .inl ⟨q3,AN.1 q2,by rw[q4]⟩
 ·rcases bb with⟨m1,m2⟩|⟨b',aJ,bT,m1,m2,m3,m4,m5⟩
  ·rw[m1] at q0;cases q0
  ·obtain rfl:b'=b:=Option.some.inj (m1.symm.trans q0);rw[q3] at m2;cases m2;have ho:o=0:=by have:=q2 (.inr rfl);omega
   subst ho;exact .inr ⟨b',cap,cs,el,q0,e1,q1,q5,q3,by simpa using q4,m4,m5⟩
def zda {hp:Nat->Option Blk} {muts:List Nat} (hm:muts.isEmpty=false):∀(i:Nat) (args ak:List AV),zT hp muts i args=some ak->ak.length=args.length∧∀(j:Nat) (x':AV),ak[j]? = some x'->∃x,args[j]? = some x ∧
  ((zA muts (i+j)=true∧∃s z es,x=.lsl s z 0 (List.length es)∧hp s=some (.arr z es)∧x'=.own z es)∨(zA muts (i+j)=false∧((x.refs=[]∧x'=x)∨(zbN muts=true∧fnOk hp x=true∧zay hp x=some x'))))
 | _,[],ak,h=>by
  simp only[zT,DM] at h;subst h;exact⟨rfl,by simp⟩
 | i,x::r,ak,h=>by
  simp only[zT] at h;split at h
  ·rename_i y ys h1 h2;cases h;obtain⟨k1,k2⟩:=zda hm (i+1) r ys h2;refine⟨by simp[k1],fun j x' hx => ?_⟩;cases j with
   | zero =>
    simp at hx;subst hx;refine⟨x,rfl, ?_⟩;rw[BF];cases hh:zA muts i with
    | true =>
     rw[if_pos hh] at h1;split at h1
     ·split at h1
      ·split at h1
       ·rename_i hc;obtain⟨rfl,rfl⟩:=hc;cases h1;exact .inl ⟨rfl,_,_,_,rfl,by assumption,rfl⟩
       ·cases h1
      ·cases h1
     ·cases h1
    | false =>
     rw[hh,hm] at h1;simp only[Au,if_false] at h1;split at h1
     ·rename_i hr;cases h1;exact .inr ⟨rfl,.inl ⟨by simpa using hr,rfl⟩⟩
     ·split at h1
      ·rename_i hr;obtain⟨q1,q2⟩:=AL.1 hr;exact .inr ⟨rfl,.inr ⟨q1,q2,h1⟩⟩
      ·cases h1
   | succ j =>
    simp only[A4] at hx ⊢;have:=k2 j x' hx
    rwa [show i+1+j=i+(j+1) by omega] at this
  ·cases h
def zaC {muts:List Nat}:∀(i:Nat) (args:List AV) (j s z o n:Nat),zA muts (i+j)=true->args[j]? = some (.lsl s z o n)->s∈z8 muts i args
 | _,[],j,s,z,o,n,_,h=>by simp at h
 | i,x::r,j,s,z,o,n,hh,h=>by
  simp only[z8,Aj];cases j with
  | zero =>simp at h;subst h;rw[BF] at hh;rw[if_pos hh];exact .inl (by simp)
  | succ j =>refine .inr (zaC (i+1) r j s z o n (by rwa [show i+1+j=i+(j+1) by omega]) (by simpa using h))
def zbT:∀(a b:List Nat),qp (a++b)=true->qp b=true∧∀s,s∈a->s∈b->False:=by
 intro a b
 induction a with
 | nil=>intro h;exact⟨h,by simp⟩
 | cons x a ih =>
  intro h;simp only[AK,qp,Ai,AU,Bf,decide_eq_false_iff_not,Aj] at h;obtain⟨k1,k2⟩:=ih h.2;refine⟨k1,fun s hs hb => ?_⟩;rcases Ar.1 hs with rfl|hs
  ·exact h.1 (.inr hb)
  ·exact k2 s hs hb
def zaD {muts:List Nat}:∀(i:Nat) (args:List AV),qp (z8 muts i args)=true->∀(j k s z o n z' o' n':Nat),zA muts (i+j)=true->zA muts (i+k)=true->args[j]? = some (.lsl s z o n)->args[k]? = some (.lsl s z' o' n')->j=k
 | _,[],_,j,k,s,z,o,n,z',o',n',_,_,h,_=>by simp at h
 | i,x::r,hn,j,k,s,z,o,n,z',o',n',hj,hk,h1,h2=>by
  simp only[z8] at hn;obtain⟨n1,n2⟩:=zbT _ _ hn;have head:∀(k z' o' n':Nat),zA muts i=true->x=.lsl s z o n->zA muts (i+(k+1))=true->r[k]? = some (.lsl s z' o' n')->False:=(by rintro k z' o' n' hi rfl hk hr;refine n2 s ?_ (zaC (i+1) r k s z' o' n' (by rwa [show i+1+k=i+(k+1) by omega]) hr);rw[if_pos hi];simp);have mx:∀(k z' o' n':Nat),zA muts i=true->x=.lsl s z' o' n'->zA muts (i+(k+1))=true->r[k]? = some (.lsl s z o n)->False:=(by rintro k z' o' n' hi rfl hk hr;refine n2 s ?_ (zaC (i+1) r k s z o n (by rwa [show i+1+k=i+(k+1) by omega]) hr);rw[if_pos hi];simp);cases j with
  | zero =>
   cases k with
   | zero=>rfl
   | succ k =>simp only[B4,DM,A4] at h1 h2;exact (head k z' o' n' (by simpa using hj) h1 hk h2).elim
  | succ j =>
   cases k with
   | zero =>simp only[B4,DM,A4] at h1 h2;exact (mx j z' o' n' (by simpa using hk) h2 hj h1).elim
   | succ k =>simp only[A4] at h1 h2;rw[zaD (i+1) r n1 j k s z o n z' o' n' (by rwa [show i+1+j=i+(j+1) by omega]) (by rwa [show i+1+k=i+(k+1) by omega]) h1 h2]
def wo {muts:List Nat}:∀(i:Nat) (args:List AV) (s:Nat),s∈zM muts i args↔∃j z o n,args[j]? = some (.lsl s z o n)∧zA muts (i+j)=true∧muts.contains (i+j)=false
 | _,[],s=>by simp[zM]
 | i,x::r,s=>by
  have ih:=wo (muts:=muts) (i+1) r s;simp only[zM,Aj,ih];constructor
  ·rintro (h|⟨j,z,o,n,h1,h2,h3⟩)
   ·split at h
    ·rename_i hc;simp only[Ai,AU] at hc;split at h
     ·simp at h;subst h;exact⟨0,_,_,_,rfl,by simpa using hc.1,by simpa using hc.2⟩
     ·cases h
    ·cases h
   ·exact⟨j+1,z,o,n,by simpa using h1,by rwa [show i+(j+1)=i+1+j by omega],by rwa [show i+(j+1)=i+1+j by omega]⟩
  ·rintro⟨j,z,o,n,h1,h2,h3⟩;cases j with
   | zero =>simp at h1;subst h1;rw[BF] at h2 h3;left;rw[if_pos (by simp only[h2,h3];rfl)];simp
   | succ j =>right;exact⟨j,z,o,n,by simpa using h1,by rwa [show i+1+j=i+(j+1) by omega],by rwa [show i+1+j=i+(j+1) by omega]⟩
def drop_none {st:ASt} {s r:Nat} (h:st.hp s=none):(st.drop r).hp s=none:=by
 simp only[ASt.drop,ASt.setH,upd];split
 ·rfl
 ·simp[ASt.scrub,h]
def drop_arr {st:ASt} {s r:Nat} (ah:s≠r) {z:Nat} {es:List (List AV)} (h:st.hp s=some (.arr z es)):(st.drop r).hp s=some (.arr z es):=by simp only[ASt.drop,ASt.setH,upd,if_neg ah,ASt.scrub,h,AQ,zbe]
def zga:∀(l:List Nat) {st:ASt} {s:Nat},st.hp s=none->(st.dropL l).hp s=none
 | [],_,_,h=>h
 | r::l,st,s,h=>zga l (drop_none h)
def sv:∀(l:List Nat) {st:ASt} {s:Nat} {z:Nat} {es:List (List AV)},s∉l->st.hp s=some (.arr z es)->(st.dropL l).hp s=some (.arr z es)
 | [],_,_,_,_,_,h=>h
 | r::l,st,s,z,es,hn,h=>sv l (fun hm=>hn (Ad _ hm)) (drop_arr (fun e=>hn (by subst e;exact Ak)) h)
def zgb:∀(l:List Nat) {st:ASt} {s:Nat},s∈l->(st.dropL l).hp s=none
 | r::l,st,s,h=>by
  by_cases e:s=r
  ·subst e;exact zga l (by simp[ASt.drop,ASt.setH,upd])
  ·exact zgb l ((Ar.1 h).resolve_left e)
def SRel.dropSL:∀(l:List Nat) {σ:Nat->Option Nat} {st:ASt},SRel S A0 O w0 A σ w st tm->zfy l=true->∃σ',SRel S A0 O w0 A σ' w (st.dropL l) tm∧(∀s,s∈l->σ' s=none)∧∀s,s∉l->σ' s=σ s
 | [],σ,st,h,_=>⟨σ,h,by simp,fun _ _=>rfl⟩
 | r::l,σ,st,h,hl=>by
  simp only[zfy,Bg,Ai,AU] at hl;obtain⟨σ',k1,k2,k3⟩:=SRel.dropSL l (h.dropS hl.1) hl.2;refine⟨σ',k1,fun s hs => ?_,fun s hs => ?_⟩
  ·by_cases e:s∈l
   ·exact k2 s e
   ·rw[k3 s e,if_pos ((Ar.1 hs).resolve_right e)]
  ·rw[k3 s (fun e=>hs (Ad _ e)),if_neg (fun (e:s=r)=>hs (by subst e;exact Ak))]
def s9 {args:List AV}:∀(outs:zdy) {st ai:ASt},zab args st outs=some ai->ai.fr=st.fr∧∀s,(ai.hp s=st.hp s∧∀i es z o n,(i,es)∈outs->args[i]?≠some (.lsl s z o n)) ∨
  ∃i es z o n z0 bm,(i,es)∈outs∧args[i]? = some (.lsl s z o n)∧st.hp s=some (.arr z0 bm)∧ai.hp s=some (.arr z0 es)∧es.length=bm.length
 | [],st,ai,h=>by
  simp only[zab,DM] at h;subst h;exact⟨rfl,fun s=>.inl ⟨rfl,by simp⟩⟩
 | (i,es)::r,st,ai,h=>by
  simp only[zab] at h;split at h
  ·rename_i s0 z o n ha;split at h
   ·rename_i z0 bm hb;split at h
    ·rename_i hl;obtain⟨k1,k2⟩:=s9 r h;refine⟨k1,fun s => ?_⟩;by_cases e:s=s0
     ·subst e;have e1:(st.setH s (some (.arr z0 es))).hp s=some (.arr z0 es):=by simp[ASt.setH,upd]
      rcases k2 s with⟨m1,m2⟩|⟨i',bj,z',o',n',z1,fp,m1,m2,m3,m4,m5⟩
      ·exact .inr ⟨i,es,z,o,n,z0,bm,by simp,ha,hb,m1.trans e1,hl⟩
      ·rw[e1] at m3;cases m3;exact .inr ⟨i',bj,z',o',n',z0,bm,Ad _ m1,m2,hb,m4,by omega⟩
     ·have e1:(st.setH s0 (some (.arr z0 es))).hp s=st.hp s:=by simp[ASt.setH,upd,e]
      rcases k2 s with⟨m1,m2⟩|⟨i',bj,z',o',n',z1,fp,m1,m2,m3,m4,m5⟩
      ·refine .inl ⟨m1.trans e1,fun i' bj z' o' n' hm => ?_⟩;rcases Ar.1 hm with hm|hm
       ·cases hm;rw[ha];simp;intro e' _ _ _;exact absurd e'.symm e
       ·exact m2 i' bj z' o' n' hm
      ·exact .inr ⟨i',bj,z',o',n',z1,fp,Ad _ m1,m2,e1▸m3,m4,m5⟩
    ·cases h
   ·cases h
  ·cases h
def SRel.after (h:SRel S A0 O w0 A σ w st tm) {w':World} {A' B:Nat->Prop} {ai:ASt} (hk:KeepO B w w') (rO:∀b,A b->A' b∧¬B b) (hA2:∀b,A' b->A b∨w.heap.size<=b∨B b) (hA3:∀b,A' b->b<w'.heap.size)
  (hA4:∀s b,σ s=some b->¬A' b) (hB:∀b,B b->w0.heap.size<=b∨O b) (dG:ai.fr=st.fr)
  (cy:∀s,(ai.hp s=st.hp s∧∀b,σ s=some b->¬B b)∨∃z es bj,st.hp s=some (.arr z es)∧ai.hp s=some (.arr z bj)∧bj.length=es.length∧zas S A' σ w' s (.arr z bj)∧zcY σ σ w w' s) :
  SRel S A0 O w0 A' σ w' ai tm:=by
 have hA:∀b,A b->w'.heap[b]? = w.heap[b]?:=fun b hb=>hk.block b (h.Alt b hb) (rO b hb).2;have cN:∀s,zcY σ σ w w' s:=fun s=>by
  rcases cy s with⟨_,k2⟩|⟨_,_,_,_,_,_,_,k⟩
  ·exact⟨rfl,fun b cs el hb hc=>⟨cs,by rw[hk.block b (h.dom s b hb).2.1 (k2 b hb)];exact hc,rfl⟩⟩
  ·exact k
 have gW:∀s,st.hp s≠none->ai.hp s≠none:=fun s hs=>by
  rcases cy s with⟨k1,_⟩|⟨_,_,_,_,k,_⟩
  ·rw[k1];exact hs
  ·rw[k];simp
 have oX:∀s cs,ai.hp s=some (.var cs)->st.hp s=some (.var cs):=fun s cs hs=>by
  rcases cy s with⟨k1,_⟩|⟨_,_,_,_,k,_⟩
  ·rw[←k1];exact hs
  ·rw[k] at hs;cases hs
 refine⟨fun k => ?_,fun s blk hb => ?_,fun k s hs => ?_,fun s cs hs s' ae => ?_,fun s b hs => ?_,h.inj,hA3,fun b hb => ?_, ?_, ?_,h.Olt⟩
 ·rw[dG];exact (h.fr k).mono (fun b hb=>(rO b hb).1) hA fun s _=>cN s
 ·rcases cy s with⟨k1,k2⟩|⟨z,es,bj,_,k2,_,k4,_⟩
  ·exact (h.hp s blk (k1▸hb)).mono (fun b hb=>(rO b hb).1) hA rfl (fun b hb=>hk.block b (h.dom s b hb).2.1 (k2 b hb)) fun s' _=>cN s'
  ·rw[k2] at hb;cases hb;exact k4
 ·rw[dG] at hs;exact gW s (h.dang k s hs)
 ·exact gW s' (h.dangV s cs (oX s cs hs) s' ae)
 ·obtain⟨d1,d2,d3,d4⟩:=h.dom s b hs;exact⟨gW s d1,AE d2 hk.size,hA4 s b hs,d4⟩
 ·rcases hA2 b hb with hb|hb|hb
  ·exact h.Asub b hb
  ·exact .inr (.inl (AD h.keep.size hb))
  ·exact .inr (hB b hb)
 ·refine⟨hk.os.trans h.keep.os,hk.tape.trans h.keep.tape,hk.output.trans h.keep.output,AD h.keep.size hk.size,fun k bX hO => ?_⟩;rw[hk.block k (AE bX h.keep.size) (fun hb=>(hB k hb).elim (fun e=>by omega) hO)];exact h.keep.block k bX hO
 ·refine h.kp.of fun s _ _=>⟨cN s,fun z es he => ?_⟩;rcases cy s with⟨k1,_⟩|⟨z',fp,bj,k1,k2,k3,_⟩
  ·exact⟨es,k1.trans he,rfl⟩
  ·rw[k1] at he;cases he;exact⟨bj,k2,k3⟩
def zjv.same {w1 w':World} {E:Nat->Prop} {args:List AV} {vs:Array Value} {ι:Nat->Option Nat} {outs:zdy} {r:AV} {v:Value} (hs:w1.heap.size=w.heap.size) (hj:∀i b,ι i=some b->w1.heap[b]? = w.heap[b]?) (h:zjv S A E (zcX S args ι vs w w' outs) w w' r v):zjv S A E (zcX S args ι vs w1 w' outs) w1 w' r v:=by
 obtain⟨β,h1,h2,h3,h4⟩:=h;have e:qy (fun b=>A b∨E b) β w1 w'=qy (fun b=>A b∨E b) β w w':=by funext b;simp only[qy,hs]
 refine⟨β,fun i b hb=>by rw[hs];exact h1 i b hb,h2, ?_,by rw[e];exact h4⟩;rw[e];intro i es z bm hm hx;obtain⟨k1,k2,k3⟩:=h3 i es z bm hm hx;exact⟨k1,k2,fun b cs el hb hc=>k3 b cs el hb (by rw[←hc,hj i b hb])⟩
def zjv.reb {w':World} {E:Nat->Prop} {args:List AV} {vs:Array Value} {ι:Nat->Option Nat} {outs:zdy} {r:AV} {v:Value} (hj:∀i b,ι i=some b->¬S.jg b) (h:zjv S A E (zcX S args ι vs w w' outs) w w' r v):zjv S A E (zcX S args ι vs (zfw S w w') w' outs) (zfw S w w') w' r v :=
 h.same qe fun i b hb=>yY (hj i b hb)
def sU {muts:List Nat}:∀(i:Nat) (args:List AV) (j:Nat) (x:AV),args[j]? = some x->zA muts (i+j)=false->∀s∈x.refs,s∈zby muts i args
 | _,[],j,x,h,_,_,_=>by simp at h
 | i,y::r,j,x,h,hh,s,hs=>by
  simp only[zby,Aj];cases j with
  | zero =>simp at h;subst h;rw[BF] at hh;rw[if_neg (by rw[hh];simp)];exact .inl hs
  | succ j=>exact .inr (sU (i+1) r j x (by simpa using h) (by rwa [show i+1+j=i+(j+1) by omega]) s hs)
def zjG (h:SRel S A0 O w0 A σ w st tm) {B1:Nat->Prop} (hA:∀b,A b->B1 b) (hV:∀s b cs,σ s=some b->st.hp s=some (.var cs)->B1 b) {x y:AV} {v:Value} (hv:VR S A σ w x v) (hs:zay st.hp x=some y) (hk:fnOk st.hp x=true):VR0 S B1 w y v:=by
 cases x with
 | fn f caps =>
  simp only[zay] at hs;split at hs
  ·rename_i aJ an;cases hs;obtain⟨g,vs,rfl,k0,k1,k2⟩:=hv.fn_inv;obtain⟨d1,d2⟩:=zD an;refine .fn k0 (by omega) fun j x hj => ?_;obtain⟨x0,aC,aH⟩:=d2 j x hj;have hc:zhn st.hp x0=true:=Af.1 hk x0 (Ae aC);have fw:=k2 j x0 aC;by_cases hp:∃s off,x0=.pv s off
   ·obtain⟨s,off,rfl⟩:=hp;simp only[zhn] at hc;split at hc
    ·rename_i cs hb;simp only[qt,hb] at aH;split at aH
     ·rename_i cs2 rm;cases aH;obtain⟨b,e,hσ⟩:=fw.pv_inv;rw[e];obtain⟨b',us,el,m1,m2,m3,m4⟩:=h.hp _ _ hb;obtain rfl:b'=b:=Option.some.inj (m1.symm.trans hσ);obtain⟨e1,e2⟩:=zD rm;have:=VR0.ep (S:=S) (A:=B1) (w:=w) (cs:=cs2) (off:=off) (b:=b') (o:=0) (u:=fun j=>us.getD j undef) (hV s b' cs hσ hb) (fun j hj=>by
       have:j<us.size:=by omega
       simp[World.cell?,m2,this,Array.getD]) (fun j x hj=>by
       obtain⟨x0,aC,aH⟩:=e2 j x hj;have hr:x0.refs=[]:=by simpa using Af.1 hc x0 (Ae aC)
       exact (yw h hA (m4 j x0 aC) aH fun s' ae _ _=>by rw[hr] at ae;cases ae).1)
      simpa using this
     ·cases aH
    ·cases hc
   ·have hr:x0.refs=[]:=by
     cases x0 with
     | pv s off=>exact absurd ⟨s,off,rfl⟩ hp
     | _=>simpa[zhn] using hc
    exact wN h hA fw aH fun s b hb hh=>by rw[hr] at hh;simp at hh
  ·cases hs
 | _=>simp[fnOk] at hk
def zjv.less {w':World} {B1 E:Nat->Prop} {args:List AV} {vs:Array Value} {ι:Nat->Option Nat} {outs:zdy} {r:AV} {v:Value} (h:zjv S B1 E (zcX S args ι vs w w' outs) w w' r v) (hp:r.plain=true) (ho:(outs.all fun p=>p.2.all fun e=>e.all AV.plain1)=true):zjv S A E (zcX S args ι vs w w' outs) w w' r v:=by
 obtain⟨β,h1,h2,h3,h4⟩:=h;refine⟨β,h1,h2,fun i es z bm hm hx => ?_, ?_⟩
 ·obtain⟨k1,⟨q0,q1⟩,k3⟩:=h3 i es z bm hm hx;refine⟨k1,⟨q0,q1.imp id ?_⟩,k3⟩;rintro⟨b,cap,us,el,a1,a2,a3,a4,a5,a6,a7,a8⟩;refine⟨b,cap,us,el,a1,a2,a3,a4,a5,a6,a7,fun i e c x hi hc=>wR (a8 i e c x hi hc) ?_⟩;have:=Af.1 (Af.1 ho _ hm) e (Ae hi);exact Af.1 this x (Ae hc)
 ·cases r with
  | own z es=>simp[AV.plain] at hp
  | tup rs =>
   obtain⟨us,rfl,hl,ha⟩:=h4;refine⟨us,rfl,hl,fun i x hx => ?_⟩;have dp:=Af.1 hp x (Ae hx);have nQ:=ha i x hx;cases x with
   | own z es=>simp[AV.plain2] at dp
   | _=>exact⟨nQ.1,zcs nQ.2 dp⟩
  | _=>exact⟨h4.1,zil h4.2 hp⟩
def zkt (h:SRel S A0 O w0 A σ w st tm) (jr:JR S A0 O w0) {args:List AV} {vs:Array Value} (hl:vs.size=args.length) (hg:∀(i:Nat) (x:AV),args[i]? = some x->Got S A σ w st x (vs.getD i undef))
  {g f:Nat} (hf:ql g S.fns=some f) {frz:Bool} {muts:List Nat} (hm:muts.isEmpty=false) (hc:zbE (zb S) frz muts f args d st v aa) :
  Calls S.P g vs w fun e w'=>∃rv A' σ' w1,e=.returned rv∧RebR S w0 w1∧JR S A0 O w1∧SRel S A0 O w1 A' σ' w' aa tm∧Got S A' σ' w' aa v rv:=by
 obtain⟨ak,r,outs,st1,ai,p1,p2,bo,p4,⟨p79,p8,p5⟩,p6⟩:=hc;obtain⟨p7,p9⟩:=AL.1 p79;obtain⟨a1,a2⟩:=zda hm 0 args ak p1;simp only[AY] at a2;rw[hm] at p4;simp only[Au,if_false,settle,or_true,if_true,DM] at p4;subst p4
 let ι:Nat->Option Nat:=fun i=>if zA muts i=true then (match args[i]? with|some (.lsl s _ _ _)=>σ s|_=>none) else none
 have ι1:∀i b,ι i=some b->zA muts i=true∧∃s z o n,args[i]? = some (.lsl s z o n)∧σ s=some b:=by
  intro i b hb;simp only[ι] at hb;split at hb
  ·rename_i hh;split at hb
   ·exact⟨hh,_,_,_,_,by assumption,hb⟩
   ·cases hb
  ·cases hb
 have ι2:∀i s z o n,zA muts i=true->args[i]? = some (.lsl s z o n)->ι i=σ s:=(by intro i s z o n hh hi;simp only[ι,if_pos hh,hi]);have same:∀i j b,ι i=some b->ι j=some b->i=j:=(by intro i j b hi hj;obtain⟨h1,s,z,o,n,h2,h3⟩:=ι1 i b hi;obtain⟨sa,s',z',o',n',mQ,kv⟩:=ι1 j b hj;obtain rfl:=h.inj s s' b h3 kv;exact zaD 0 args p2 i j s z o n z' o' n' (by simpa using h1) (by simpa using sa) h2 mQ);have argQ:∀(B1:Nat->Prop),(∀b,A b->B1 b)->((zbN muts=true->zby muts 0 args=[])∨∀s b cs,σ s=some b->st.hp s=some (.var cs)->B1 b)->∀(i:Nat) (x:AV),ak[i]? = some x->zap S B1 w (ι i) x (vs.getD i undef):=by
  intro B1 mN gC i x hx;obtain⟨x0,aC,⟨hh,s,z,es,rfl,hb,rfl⟩|⟨hh,⟨hr,rfl⟩|⟨pb,hfn,nA⟩⟩⟩:=a2 i x hx
  ·rw[ι2 i _ _ _ _ hh aC];exact (zin h (hg i _ aC).rel hb).mono mN
  ·have:ι i=none:=by simp only[ι,hh];rfl
   rw[this];exact qY (((hg i _ aC).rel.to0 hr).mono mN fun _ _=>rfl)
  ·have:ι i=none:=by simp only[ι,hh];rfl
   rw[this];refine qY ?_;rcases gC with gC|gC
   ·refine zdE h mN (hg i _ aC).rel nA fun s b hb hs => ?_;have hr:x0.refs=[]:=AF.2 fun s hs=>(by have:=sU (muts:=muts) 0 args i x0 aC (by simpa using hh) s hs;rw[gC pb] at this;cases this);rw[hr] at hs;simp at hs
   ·exact zjG h mN gC (hg i _ aC).rel nA hfn
 obtain⟨B1,mN,gC,argR,less⟩:∃B1:Nat->Prop,(∀b,A b->B1 b)∧(∀b,B1 b->A b∨∃s cs,σ s=some b∧st.hp s=some (.var cs))∧(∀(i:Nat) (x:AV),ak[i]? = some x->zap S B1 w (ι i) x (vs.getD i undef)) ∧
   ∀w' rv,zjv S B1 (ym ι outs) (zcX S ak ι vs w w' outs) w w' r rv->zjv S A (ym ι outs) (zcX S ak ι vs w w' outs) w w' r rv:=by
  simp only[kJ,B5,AU,Ai,Cj] at p9;rcases p9 with (p9|p9)|p9
  ·exact⟨A,fun _ h=>h,fun _ h=>.inl h,argQ A (fun _ h=>h) (.inl fun e=>by rw[p9] at e;cases e),fun _ _ h=>h⟩
  ·exact⟨A,fun _ h=>h,fun _ h=>.inl h,argQ A (fun _ h=>h) (.inl fun _=>p9),fun _ _ h=>h⟩
  ·exact⟨fun b=>A b∨∃s cs,σ s=some b∧st.hp s=some (.var cs),fun _ h=>.inl h,fun _ h=>h,argQ _ (fun _ h=>.inl h) (.inr fun s b cs h1 h2=>.inr ⟨s,cs,h1,h2⟩),fun _ _ h=>h.less p9.1 p9.2⟩
 have nB:∀i b,ι i=some b->¬B1 b:=by
  intro i b hb hB;obtain⟨hh,s,z,o,n,h2,h3⟩:=ι1 i b hb;rcases gC b hB with hA|⟨s',cs,h4,h5⟩
  ·exact (h.dom s b h3).2.2.1 hA
  ·obtain rfl:=h.inj s s' b h3 h4;have hi:i<ak.length:=by rw[a1];exact (Ac.1 h2).1
   obtain⟨x0,aC,⟨_,s1,z1,fp,e1,cr,_⟩|⟨hn,_⟩⟩:=a2 i _ (Aa hi)
   ·rw[h2] at aC;cases aC;cases e1;rw[h5] at cr;cases cr
   ·rw[hh] at hn;cases hn
 have mn:∀i es,(i,es)∈outs->muts.contains i=true∧i<1000:=by
  intro i es hi;have:i∈jx muts:=by rw[←p8];exact Al.2 ⟨_,hi,rfl⟩
  simp only[jx,BH,Ce] at this;exact⟨by simpa[Bf] using this.1,this.2⟩
 have fQ:∀i,muts.contains i=true->i<1000->∃es,(i,es)∈outs:=by
  intro i h1 h2;have:i∈outs.map (·.1):=by rw[p8];simp only[jx,BH,Ce];exact⟨by simpa[Bf] using h1,h2⟩
  obtain⟨⟨j,es⟩,h3,rfl⟩:=Al.1 this;exact⟨es,h3⟩
 have iw:∀i,zA muts i=true->i<1000:=(by intro i hi;simp only[zA,Ai,Ce] at hi;exact hi.1);obtain⟨σ2,s1,s2,s3⟩:=SRel.dropSL (zM muts 0 args) h p7;obtain⟨f1,f2⟩:=s9 outs p5;have hσ2:∀s b,σ2 s=some b->σ s=some b∧s∉zM muts 0 args:=by
  intro s b hs;by_cases e:s∈zM muts 0 args
  ·rw[s2 s e] at hs;cases hs
  ·exact⟨(s3 s e)▸hs,e⟩
 have rh:∀b,ym ι outs b->∃s,s∈zM muts 0 args∧σ s=some b:=by
  rintro b ⟨i,hi,hn⟩;obtain⟨h1,s,z,o,n,h2,h3⟩:=ι1 i b hi;refine⟨s,(wo 0 args s).2 ⟨i,z,o,n,h2,by simpa using h1, ?_⟩,h3⟩;cases hq:muts.contains (0+i) with
  | false=>rfl
  | true =>obtain⟨es,he⟩:=fQ i (by simpa using hq) (iw i h1);exact absurd he (hn es)
 refine (bo g hf B1 w vs ι (by omega) ⟨fun b hb=>(gC b hb).elim (h.Alt b) fun⟨s,_,h1,_⟩=>(h.dom s b h1).2.1,h.inv⟩ ⟨fun i b hb => ?_,same⟩ ((h.jpre jr).mono (fun b hb=>(gC b hb).imp id fun⟨s,_,h1,_⟩=>⟨s,h1⟩) (fun _ h=>h) |> fun jp=>⟨jp.jn,jp.lt,jp.na,fun b hb ⟨i,hi⟩=>by obtain⟨_,s,_,_,_,_,h3⟩:=ι1 i b hi;exact (h.jpre jr).na b hb (.inr ⟨s,h3⟩),jp.ng⟩) argR).mono ?_
 ·obtain⟨_,s,z,o,n,h2,h3⟩:=ι1 i b hb;obtain⟨_,d2,d3,d4⟩:=h.dom s b h3;refine⟨by rw[a1];exact (Ac.1 h2).1,d2,nB i b hb,fun p hp e => ?_⟩;rcases d4 with d4|d4
  ·have:=h.Olt.2.2.lt p hp;omega
  ·exact h.Olt.2.1 p hp (e▸d4)
 rintro e w' ⟨rv,he,bX,hj,ko⟩;obtain⟨h,lR⟩:=h.reb jr bX.size hj;obtain⟨s1,_⟩:=s1.reb jr bX.size hj;have hk:=bX.reb;have hjA:∀i b,ι i=some b->¬S.jg b:=fun i b hi hb=>(by obtain⟨_,s,_,_,_,_,h3⟩:=ι1 i b hi;exact (h.jpre lR).na b hb (.inr ⟨s,h3⟩));have ko:=zjv.reb hjA (less _ _ ko);have cI:RebR S w0 (zfw S w0 w'):=zef;generalize zfw S w0 w'=W0 at *;generalize zfw S w w'=W at *;obtain⟨β,hβ,ay,hT,hp⟩:=ko;have tC:∀s b,σ2 s=some b->¬ym ι outs b:=(by intro s b hs hE;obtain⟨s',q1,q2⟩:=rh b hE;obtain⟨q3,q4⟩:=hσ2 s b hs;exact q4 (h.inj s s' b q3 q2▸q1));have rM:∀b,A b->¬zbc ι b:=(by rintro b hb ⟨i,hi⟩;obtain⟨_,s,z,o,n,_,h3⟩:=ι1 i b hi;exact (h.dom s b h3).2.2.1 hb);have uo:∀b,zbc ι b->W0.heap.size<=b∨O b:=(by rintro b ⟨i,hi⟩;obtain⟨_,s,z,o,n,_,h3⟩:=ι1 i b hi;exact (h.dom s b h3).2.2.2);have rL:∀b,ym ι outs b->zbc ι b:=fun b ⟨i,hi,_⟩=>⟨i,hi⟩;have hrel:SRel S A0 O W0 (qy (fun b=>A b∨ym ι outs b) β W w') σ2 w' ai tm:=by
  refine s1.after hk (fun b hb=>⟨⟨.inl (.inl hb),AE (h.Alt b hb) hk.size,fun i e => ?_⟩,rM b hb⟩) (fun b hb => ?_) (fun b hb=>hb.2.1) (fun s b hs hb => ?_) uo f1 fun s => ?_
  ·rcases (hβ i b e).1 with q|q
   ·have:=h.Alt b hb;omega
   ·exact rM b hb (rL b q)
  ·rcases hb.1 with (q|q)|q
   ·exact .inl q
   ·exact .inr (.inr (rL b q))
   ·exact .inr (.inl q)
  ·rcases hb.1 with (q|q)|q
   ·exact (s1.dom s b hs).2.2.1 q
   ·exact tC s b hs q
   ·have:=(s1.dom s b hs).2.1;omega
  ·rcases f2 s with⟨q1,q2⟩|⟨i,es,z,o,n,z0,bm,q1,q2,q3,q4,q5⟩
   ·refine .inl ⟨q1,fun b hb ⟨i,hi⟩ => ?_⟩;obtain⟨q3,q4⟩:=hσ2 s b hb;obtain⟨q5,s',z,o,n,q6,q7⟩:=ι1 i b hi;obtain rfl:=h.inj s s' b q3 q7;cases hq:muts.contains i with
    | true =>obtain⟨es,he⟩:=fQ i hq (iw i q5);exact q2 i es z o n he q6
    | false=>exact q4 ((wo 0 args s).2 ⟨i,z,o,n,q6,by simpa using q5,by simpa using hq⟩)
   ·obtain⟨m1,m2⟩:=mn i es q1;have hh:zA muts i=true:=by simp only[zA,m1,Di,CJ,Ce];exact m2
    have aQ:i<ak.length:=by rw[a1];exact (Ac.1 q2).1
    have hx:=Aa aQ;obtain⟨x0,aC,⟨_,s',z',bj,e1,aw,e2⟩|⟨tR,_⟩⟩:=a2 i _ hx
    ·rw[q2] at aC;cases aC;cases e1;have ah:s∉zM muts 0 args:=fun eO=>(by obtain⟨j,z1,o1,n1,j1,j2,j3⟩:=(wo 0 args s).1 eO;have:=zaD 0 args p2 i j s _ _ _ z1 o1 n1 (by simpa using hh) j2 q2 j1;subst this;simp only[AY] at j3;rw[m1] at j3;cases j3);have hd:=sv (zM muts 0 args) ah aw;rw[q3] at hd;cases hd;obtain⟨t1,t2,t3⟩:=hT i es _ bm q1 (by rw[hx,e2]);have hι:ι i=σ2 s:=(ι2 i _ _ _ _ hh q2).trans (s3 s ah).symm;refine .inr ⟨_,bm,es,q3,q4,t1, ?_,rfl,fun b cs el hb an=>t3 b cs el (hι.trans hb) an⟩;exact (yp t2 hι.symm).2
    ·rw[hh] at tR;cases tR
 have hβ':∀i b,β i=some b->b<w'.heap.size∧¬qy (fun b=>A b∨ym ι outs b) β W w' b∧(W0.heap.size<=b∨O b):=by
  intro i b hb;refine⟨(hβ i b hb).2,fun hh=>hh.2.2 i hb, ?_⟩;rcases (hβ i b hb).1 with q|q
  ·exact .inl (AD h.keep.size q)
  ·exact uo b (rL b q)
 have lq:∀s b k,σ2 s=some b->β k≠some b:=by
  intro s b k hs hb;rcases (hβ k b hb).1 with q|q
  ·have:=(s1.dom s b hs).2.1;omega
  ·exact tC s b hs q
 -- the answer
 cases heq:zM muts 0 args with
 | nil =>rw[heq] at p6;simp only[impE] at p6;obtain⟨σ',k⟩:=zeA hrel hβ' ay lq hp p6;exact⟨rv,_,σ',_,he,cI,lR,k⟩
 | cons s0 rest =>
  rw[heq] at p6
  have put:∀(z:Nat) (es:List (List AV)) (u:Value) (i:Nat),ai.hp s0=none->qx S (qy (fun b=>A b∨ym ι outs b) β W w') w' (β i) z es u ->
    SRel S A0 O W0 (qy (fun b=>A b∨ym ι outs b) β W w') (upd σ2 s0 (β i)) w' (ai.setH s0 (some (.arr z es))) tm∧VR S (qy (fun b=>A b∨ym ι outs b) β W w') (upd σ2 s0 (β i)) w' (.lsl s0 z 0 es.length) u:=by
   intro z es u i hn ho;obtain⟨v1,v2⟩:=yp ho (σ':=upd σ2 s0 (β i)) (qD _ _ _);exact⟨hrel.addSite hn (b?:=β i) (blk:=.arr z es) rfl v2 fun b hb=>⟨(hβ' i b hb).1,(hβ' i b hb).2.1,(hβ' i b hb).2.2,fun s hs=>lq s b i hs hb⟩,v1⟩
  have plain:iz r=true->(v,aa)=(r,ai)->∃rv A' σ' w1,e=.returned rv∧RebR S w0 w1∧JR S A0 O w1∧SRel S A0 O w1 A' σ' w' aa tm∧Got S A' σ' w' aa v rv:=(by intro cq e1;cases e1;have p6':=nf cq d aa;obtain⟨σ',k⟩:=zeA hrel hβ' ay lq hp p6';exact⟨rv,_,σ',_,he,cI,lR,k⟩);unfold impE at p6;split at p6
  ·rename_i hq;cases hq
  ·rename_i gJ tg hq;cases hq;split at p6
   ·rename_i z es;split at p6
    ·rename_i hn;simp only[DM,DN] at p6;obtain⟨rfl,rfl⟩:=p6;obtain⟨k1,k2⟩:=put z es rv 0 hn hp;exact⟨rv,_,_,_,he,cI,lR,k1,k2,fun s hs=>by rw[AV.refs,Ah] at hs;subst hs;simp[ASt.setH,upd]⟩
    ·cases p6
   ·rename_i z es gq;split at p6
    ·rename_i hn;split at p6
     ·rename_i hall;simp only[DM,DN] at p6;obtain⟨rfl,rfl⟩:=p6;obtain⟨us,rfl,hlen,fM⟩:=hp;obtain⟨k1,k2⟩:=put z es (us.getD 0 undef) 0 hn (fM 0 _ rfl);have rest:∀(i:Nat) (x:AV),gq[i]? = some x->VR0 S (qy (fun b=>A b∨ym ι outs b) β W w') w' x (us.getD (i+1) undef):=fun i x hx =>
       (kH (fM (i+1) x (by simpa using hx)) (by simpa using Af.1 hall x (Ae hx))).2
      refine⟨_,_,_,_,he,cI,lR,k1,.tup (by simpa using hlen) fun i x hx => ?_,fun s hs => ?_⟩
      ·cases i with
       | zero=>simp at hx;subst hx;exact k2
       | succ i=>exact .of0 (rest i x (by simpa using hx))
      ·rw[AV.refs,zh] at hs;obtain⟨x,hx,hs⟩:=hs;rcases Ar.1 hx with rfl|hx
       ·rw[AV.refs,Ah] at hs;subst hs;simp[ASt.setH,upd]
       ·obtain⟨i,hi⟩:=AA.1 hx;exact (jK (rest i x hi) s hs).elim
     ·cases p6
    ·cases p6
   ·split at p6
    ·rename_i cq;exact plain cq (Option.some.inj p6).symm
    ·cases p6
end
end
end Ab
