import Derived.Test.YtkaifdgeigdbhaaGreatDoorA1
import Derived.Laws.Tables
import Derived.Great.BuildSlice
import Derived.Deep.DeepAppendWide
set_option linter.all false
namespace Ab
section
open Go Go.RowKit
section
variable {S:Seat} {A0:Nat->Prop} {O:Hnd} {w0:World} {A:Nat->Prop} {σ:Nat->Option Nat} {w:World} {st aa:ASt} {tm:Array Value} {df:List Deferred} {o:Oper} {v:AV} {d:Nat}
def zhu {x:Operand} (h:zhv x=true):x=.const .nilIface:=by
 unfold zhv at h;split at h
 ·rfl
 ·cases h
def ziB {P:Program} {t:TypeId} {ms:Array (String×TypeId)} (hu:P.underlying t=some (.interface ms)) (w:World) :
  (Op.equal t .nilIface .nilIface).run P w=.ok true w∧(∀ T v,(Op.equal t (.iface T v) .nilIface).run P w=.ok false w)∧(∀ T v,(Op.equal t .nilIface (.iface T v)).run P w=.ok false w):=by
 have e1:∀ dd,(Op.equalIn (dd+1) t .nilIface .nilIface).run P w=.ok true w:=fun dd=>by simp[Op.equalIn,run_underlying hu]
 have e2:∀ dd T v,(Op.equalIn (dd+1) t (.iface T v) .nilIface).run P w=.ok false w:=fun dd T v=>by simp[Op.equalIn,run_underlying hu]
 have e3:∀ dd T v,(Op.equalIn (dd+1) t .nilIface (.iface T v)).run P w=.ok false w:=fun dd T v=>by simp[Op.equalIn,run_underlying hu]
 exact ⟨e1 9999,e2 9999,e3 9999⟩
def zfZ (h:SRel S A0 O w0 A σ w st tm) {neg:Bool} {t u:TypeId} {ms:Array (String×TypeId)} {x y z:Operand} {z':AOpd} (ho:o.op=.binOp (if neg then .neq else .eql) t x y u) (hu:S.P.underlying t=some (.interface ms))
  (hz:(z=x∧zhv y=true)∨(z=y∧zhv x=true)) (h1:qF S z=some z') (ha:aop (.eqn false neg z') d st=some (v,aa)):wK S A0 O w0 w tm df o v aa:=by
 have g1:=h.ev (df:=df) h1;obtain ⟨k1,k2,k3⟩:=ziB hu w
 have key:∀ b:Bool,((Act.eval ⟨tm,df⟩ z=.nilIface∧b=true)∨((∃ T v,Act.eval ⟨tm,df⟩ z=.iface T v)∧b=false)) ->
   (execOp (Act.eval ⟨tm,df⟩) o).run S.P w=.ok (.value (.bool (if neg then !b else b))) w:=by
  intro b hb;have ek:Act.eval ⟨tm,df⟩ (.const .nilIface)=.nilIface:=rfl;rcases hz with ⟨rfl,hy⟩ | ⟨rfl,hx⟩
  ·obtain rfl:=zhu hy;rcases hb with ⟨hb,rfl⟩ | ⟨⟨T,v,hb⟩,rfl⟩
   ·cases neg<;>simp[execOp,ho,hb,ek,eqGuard_nil_constR,binOp,k1]
   ·cases neg<;>simp[execOp,ho,hb,ek,eqGuard_at_iface,binOp,k2]
  ·obtain rfl:=zhu hx;rcases hb with ⟨hb,rfl⟩ | ⟨⟨T,v,hb⟩,rfl⟩
   ·cases neg<;>simp[execOp,ho,hb,ek,eqGuard_nil_constL,binOp,k1]
   ·cases neg<;>simp[execOp,ho,hb,ek,eqGuard_nil_iface,binOp,k3]
 simp only[aop,Ap,if_false] at ha;split at ha
 ·rename_i he;rw[he] at g1;simp only[Option.some.injEq,Prod.mk.injEq] at ha;obtain ⟨rfl,rfl⟩:=ha;exact .same h (rv:=.bool (!neg)) (by rw[key true (.inl ⟨g1.rel.v_inv,rfl⟩)];cases neg<;>rfl) (zfa _)
 ·rename_i k x1 he;rw[he] at g1;obtain ⟨T,v',e,_⟩:=g1.rel.ifc_inv;simp only[Option.some.injEq,Prod.mk.injEq] at ha;obtain ⟨rfl,rfl⟩:=ha;exact .same h (rv:=.bool neg) (by rw[key false (.inr ⟨⟨T,v',e⟩,rfl⟩)];cases neg<;>rfl) (zfa _)
 ·rename_i k x1 he;rw[he] at g1;simp only[Option.some.injEq,Prod.mk.injEq] at ha;obtain ⟨rfl,rfl⟩:=ha;exact .same h (rv:=.bool neg) (by rw[key false (.inr ⟨⟨_,_,g1.rel.v_inv⟩,rfl⟩)];cases neg<;>rfl) (zfa _)
 ·cases ha
def op_eqnS (h:SRel S A0 O w0 A σ w st tm) {neg:Bool} {t u e:TypeId} {x:Operand} {x':AOpd} (ho:o.op=.binOp (if neg then .neq else .eql) t x (.const (.slice none 0 0)) u) (hu:S.P.underlying t=some (.slice e))
  (h1:qF S x=some x') (ha:aop (.eqn true neg x') d st=some (v,aa)):wK S A0 O w0 w tm df o v aa:=by
 have g1:=h.ev (df:=df) h1;have k:∀ b n c,(Op.equal t (.slice b n c) (.slice none 0 0)).run S.P w=.ok b.isNone w:=by
  intro b n c;have e1:∀ dd,(Op.equalIn (dd+1) t (.slice b n c) (.slice none 0 0)).run S.P w=.ok b.isNone w:=fun dd=>by cases b<;>simp[Op.equalIn,run_underlying hu]
  exact e1 9999
 have key:∀ b n c,Act.eval ⟨tm,df⟩ x=.slice b n c->(execOp (Act.eval ⟨tm,df⟩) o).run S.P w=.ok (.value (.bool (if neg then !b.isNone else b.isNone))) w:=(by intro b n c hb;have e2:Act.eval ⟨tm,df⟩ (.const (.slice none 0 0))=.slice none 0 0:=rfl;cases neg<;>simp[execOp,ho,hb,e2,eqGuard_at_slice,binOp,k])
 simp only[aop,if_true] at ha;split at ha
 ·rename_i he;rw[he] at g1;simp only[Option.some.injEq,Prod.mk.injEq] at ha;obtain ⟨rfl,rfl⟩:=ha;exact .same h (rv:=.bool (!neg)) (by rw[key _ _ _ g1.rel.v_inv];cases neg<;>rfl) (zfa _)
 ·rename_i a l c he;rw[he] at g1;simp only[Option.some.injEq,Prod.mk.injEq] at ha;obtain ⟨rfl,rfl⟩:=ha;exact .same h (rv:=.bool neg) (by rw[key _ _ _ g1.rel.v_inv];cases neg<;>rfl) (zfa _)
 ·rename_i z e1 es he;rw[he] at g1;simp only[Option.some.injEq,Prod.mk.injEq] at ha;obtain ⟨rfl,rfl⟩:=ha;rcases g1.rel.sl_inv with ⟨hf,_⟩ | ⟨b,o',cap,u,e1,_⟩ | ⟨hf,_⟩
  ·cases hf
  ·exact .same h (rv:=.bool neg) (by rw[key _ _ _ e1];cases neg<;>rfl) (zfa _)
  ·cases hf
 ·cases ha
def scTy (P:Program) (t:TypeId):Sc->Prop
 | .int=>∃ k,P.underlying t=some (.int k)
 | .bool=>P.underlying t=some .bool
 | .str=>P.underlying t=some .string
def scEq_int {x y:AV} {r:Bool} (h:zle .int x y=some r):∃ k a b,x=.v (.int k a)∧y=.v (.int k b)∧r=decide (a=b):=by
 unfold zle at h;split at h
 ·rename_i k a k' b _;split at h
  ·rename_i hk;subst hk;cases h;exact ⟨_,_,_,rfl,rfl,rfl⟩
  ·cases h
 ·rename_i hh;cases hh
 ·rename_i hh;cases hh
 ·cases h
def scEq_bool {x y:AV} {r:Bool} (h:zle .bool x y=some r):∃ a b,x=.v (.bool a)∧y=.v (.bool b)∧r=decide (a=b):=by
 unfold zle at h;split at h
 ·rename_i hh;cases hh
 ·cases h;exact ⟨_,_,rfl,rfl,rfl⟩
 ·rename_i hh;cases hh
 ·cases h
def scEq_str {x y:AV} {r:Bool} (h:zle .str x y=some r):∃ a b,x=.v (.string a)∧y=.v (.string b)∧r=decide (a=b):=by
 unfold zle at h;split at h
 ·rename_i hh;cases hh
 ·rename_i hh;cases hh
 ·cases h;exact ⟨_,_,rfl,rfl,rfl⟩
 ·cases h
def scEq_run {P:Program} {s:Sc} {t:TypeId} {x y:AV} {a b:Value} {r:Bool} (h:zle s x y=some r) (ha:VR S A σ w x a) (hb:VR S A σ w y b) (ht:scTy P t s) (dd:Nat) (w1:World) :
  (Op.equalIn (dd+1) t a b).run P w1=.ok r w1:=by
 cases s with
 | int =>obtain ⟨k,n,m,rfl,rfl,rfl⟩:=scEq_int h;obtain ⟨k',ht⟩:=ht;rw[ha.v_inv,hb.v_inv,run_equalIn_int w1 dd t _ k' _ _ ht];by_cases he:n=m<;>simp[he]
 | bool =>obtain ⟨n,m,rfl,rfl,rfl⟩:=scEq_bool h;rw[ha.v_inv,hb.v_inv,run_equalIn_bool' w1 dd t _ _ ht];cases n<;>cases m<;>rfl
 | str =>obtain ⟨n,m,rfl,rfl,rfl⟩:=scEq_str h;rw[ha.v_inv,hb.v_inv,run_equalIn_string w1 dd t _ _ ht,zkl]
def zhV {P:Program} {cs ds:List AV} {xs ys:Array Value} (hx:cs.length=xs.size) (hy:ds.length=ys.size)
  (h1:∀ (i:Nat) (x:AV),cs[i]? = some x->VR S A σ w x (xs.getD i undef)) (h2:∀ (i:Nat) (x:AV),ds[i]? = some x->VR S A σ w x (ys.getD i undef)) (dd:Nat) (w1:World) :
  ∀ (fs:List Field) (l:List (Nat×Sc)) (r:Bool),zet P fs=some l->ziX cs ds l=some r->(Op.eqFields (dd+1) xs ys fs).run P w1=.ok r w1
 | [],l,r,hl,hr=>by
  simp only[zet,Option.some.injEq] at hl;subst hl;simp only[ziX,Option.some.injEq] at hr;subst hr;simp[Op.eqFields]
 | f :: fs,l,r,hl,hr=>by
  simp only[zet] at hl;split at hl
  ·cases hl
  ·rename_i hn
   have step:∀ (s:Sc) (l':List (Nat×Sc)),zet P fs=some l'->l=(f.offset,s) :: l' ->
     scTy P f.type s->(Op.eqFields (dd+1) xs ys (f :: fs)).run P w1=.ok r w1:=by
    intro s l' bA hle ht;subst hle;simp only[ziX] at hr;split at hr
    ·rename_i x y ex ey;split at hr
     ·rename_i a b ha hb;cases hr;have hi:f.offset < xs.size:=by have:=(Ac.1 ex).1;omega
      have hj:f.offset < ys.size:=by have:=(Ac.1 ey).1;omega
      have ih:=zhV hx hy h1 h2 dd w1 fs l' b bA hb;have ks:=scEq_run (P:=P) (t:=f.type) ha (h1 _ _ ex) (h2 _ _ ey) ht dd w1;have lE:(isAgg f.type).run P w1=.ok false w1:=by
       unfold isAgg;cases s with
       | int=>obtain ⟨k,ht⟩:=ht;rw[Sem.run_bind,run_underlying ht];rfl
       | bool=>rw[Sem.run_bind,run_underlying ht];rfl
       | str=>rw[Sem.run_bind,run_underlying ht];rfl
      have p1:(part f.type xs f.offset).run P w1=.ok (xs.getD f.offset undef) w1:=by simp[part,lE,Array.getD,hi]
      have p2:(part f.type ys f.offset).run P w1=.ok (ys.getD f.offset undef) w1:=by simp[part,lE,Array.getD,hj]
      simp only[Op.eqFields,ne_eq,hn,not_false_eq_true,if_true,Sem.run_bind,p1,p2,ks,Result.andThen_ok];cases a<;>simp[ih]
     ·cases hr
    ·cases hr
   split at hl
   ·rename_i k l' hu bA;cases hl;exact step .int l' bA rfl ⟨k,hu⟩
   ·rename_i l' hu bA;cases hl;exact step .bool l' bA rfl hu
   ·rename_i l' hu bA;cases hl;exact step .str l' bA rfl hu
   ·cases hl
def op_eqa (h:SRel S A0 O w0 A σ w st tm) {neg:Bool} {t u:TypeId} {fs:Array Field} {l:List (Nat×Sc)} {x y:Operand} {x' y':AOpd} (ho:o.op=.binOp (if neg then .neq else .eql) t x y u) (hu:S.P.underlying t=some (.struct fs))
  (hg:S.P.eqGuardType S.P.depth t=false) (hs:S.P.stoodInHeld t=false) (hl:zet S.P fs.toList=some l) (h1:qF S x=some x') (h2:qF S y=some y') (ha:aop (.eqa neg l x' y') d st=some (v,aa)):wK S A0 O w0 w tm df o v aa:=by
 have g1:=h.ev (df:=df) h1;have g2:=h.ev (df:=df) h2;have hf:S.P.fieldsOf t=fs:=by simp[Program.fieldsOf,hu]
 simp only[aop] at ha;split at ha
 ·rename_i cs ds eg ed;rw[eg] at g1;rw[ed] at g2;obtain ⟨xs,e1,l1,v1⟩:=g1.rel.agg_inv;obtain ⟨ys,e2,l2,v2⟩:=g2.rel.agg_inv;split at ha
  ·rename_i r hr;simp only[Option.some.injEq,Prod.mk.injEq] at ha;obtain ⟨rfl,rfl⟩:=ha;have ke:(Op.equalIn 10000 t (.agg xs) (.agg ys)).run S.P w=.ok r w:=(by rw[run_equalIn_agg w 9999 t xs ys (by rw[hf];exact hu) hs,hf];exact zhV l1 l2 v1 v2 9998 w fs.toList l r hl hr);refine .same h (rv:=.bool (if neg then !r else r)) ?_ (zfa _)
   cases neg
   ·simp[execOp,ho,e1,e2,run_eqGuard_agg w _ t x y xs ys hg,run_eql_struct,ke]
   ·simp[execOp,ho,e1,e2,run_eqGuard_agg w _ t x y xs ys hg,run_neq_struct,ke]
  ·cases ha
 ·cases ha
def SRel.evs (h:SRel S A0 O w0 A σ w st tm):∀ {xs:List Operand} {as:List AOpd},zjd S xs=some as ->
  xs.length=as.length∧∀ (i:Nat) (a:AV),(as.map st.ev)[i]? = some a->Got S A σ w st a ((xs.map (Act.eval ⟨tm,df⟩)).getD i undef)
 | [],as,hc=>by simp only[zjd,zj,Option.some.injEq] at hc;subst hc;exact ⟨rfl,by simp⟩
 | x :: xs,as,hc=>by
  simp only[zjd,zj] at hc;split at hc
  ·rename_i y ys hy dh;cases hc;obtain ⟨k1,k2⟩:=SRel.evs h (xs:=xs) dh;refine ⟨by simp[k1],fun i a hi => ?_⟩;cases i with
   | zero=>simp at hi;subst hi;simpa using h.ev hy
   | succ i=>simp at hi;simpa using k2 i a (by simpa using hi)
  ·cases hc
def op_mkfn (h:SRel S A0 O w0 A σ w st tm) {f id:Nat} {first caps:Array Operand} {l:List AOpd} (ho:o.op=.makeFunc (.func f) first caps) (hf:first.size=0) (hid:qL f S.fns=some id) (hl:zjd S caps.toList=some l)
  (ha:aop (.mkfn id l) d st=some (v,aa)):wK S A0 O w0 w tm df o v aa:=by
 obtain ⟨k1,k2⟩:=h.evs (df:=df) hl;simp only[aop,Option.some.injEq,Prod.mk.injEq] at ha;obtain ⟨rfl,rfl⟩:=ha;have hfe:first=#[]:=Cs hf;have e:∀ i,(caps.map (Act.eval ⟨tm,df⟩)).getD i undef=(caps.toList.map (Act.eval ⟨tm,df⟩)).getD i undef:=(by intro i;simp[Aq,List.getD]);refine .same h (rv:=.func (.func f) #[] (caps.map (Act.eval ⟨tm,df⟩))) (by simp[execOp,ho,hfe,Instr.makeFunc]) ⟨.fn hid (by simp at k1 ⊢;omega) fun i a hi => ?_,fun s hs => ?_⟩
 ·rw[e];exact (k2 i a hi).rel
 ·rw[AV.refs,zm] at hs;obtain ⟨x,hx,hs⟩:=hs;obtain ⟨i,hi⟩:=AA.1 hx;exact (k2 i x hi).dang s hs
end
end
section
open Go Go.RowKit
section
variable {S:Seat} {A0:Nat->Prop} {O:Hnd} {w0:World} {A:Nat->Prop} {σ:Nat->Option Nat} {w:World} {st aa:ASt} {tm:Array Value} {df:List Deferred} {o:Oper} {v:AV} {d:Nat}
def zac.mono {A':Nat->Prop} {σ':Nat->Option Nat} {w':World} {s:Nat} {blk:Blk} (h:zac S A σ w s blk) (hA:∀ b,A b->A' b) (hw:∀ b,A b->w'.heap[b]? = w.heap[b]?)
  (hs:σ' s=σ s) (hb:∀ b,σ s=some b->w'.heap[b]? = w.heap[b]?) (hr:∀ s'∈blk.refs,zcE σ σ' w w' s'):zac S A' σ' w' s blk:=by
 cases blk with
 | var cs =>obtain ⟨b,vs,el,h1,h2,h3,h4⟩:=h;exact ⟨b,vs,el,hs.trans h1,(hb _ h1).trans h2,h3,fun i x hx=>(h4 i x hx).mono hA hw fun s' ah=>hr s' (by rw[Blk.refs];exact zm.2 ⟨x,Ad hx,ah⟩)⟩
 | arr z es =>
  obtain ⟨h0,⟨h1,h2⟩ | ⟨b,vs,el,h1,h2,h3,h5,h4⟩⟩:=h
  ·exact ⟨h0,.inl ⟨hs.trans h1,h2⟩⟩
  ·exact ⟨h0,.inr ⟨b,vs,el,hs.trans h1,(hb _ h1).trans h2,h3,h5,fun i e c x hi hc=>(h4 i e c x hi hc).mono hA hw⟩⟩
def KeepO.alloc (w:World) (O:Nat->Prop) (ob:Obj):KeepO O w (w.alloc ob):=⟨rfl,rfl,rfl,by simp,fun k hk _=>heap_alloc_old w ob k hk⟩
def KeepO.drew (w:World) (O:Nat->Prop):KeepO O w w.drew:=⟨rfl,rfl,rfl,AG _,fun _ _ _=>rfl⟩
def VR0.heap {w':World} (hw:w'.heap=w.heap) {x:AV} {v:Value} (h:VR0 S A w x v):VR0 S A w' x v:=h.mono (fun _ h=>h) fun _ _=>by rw[hw]
def VR.heap {w':World} (hw:w'.heap=w.heap) {x:AV} {v:Value} (h:VR S A σ w x v):VR S A σ w' x v :=
 h.mono (fun _ h=>h) (fun _ _=>by rw[hw]) fun s _=>⟨rfl,fun b cs el _ hb=>⟨cs,by rw[hw];exact hb,rfl⟩⟩
def SRel.drew (h:SRel S A0 O w0 A σ w st tm):SRel S A0 O w0 A σ w.drew st tm :=
 ⟨fun k=>VR.heap (w:=w) (w':=w.drew) rfl (h.fr k),fun s blk hb=>(h.hp s blk hb).mono (fun _ h=>h) (fun _ _=>rfl) rfl (fun _ _=>rfl) fun _ _=>⟨rfl,fun _ cs _ _ hb=>⟨cs,hb,rfl⟩⟩,
  h.dang,h.dangV,h.dom,h.inj,h.Alt,h.Asub,h.keep.trans (KeepO.drew _ _),h.kp.same (fun _ _=>⟨rfl,fun _ cs _ _ hb=>⟨cs,hb,rfl⟩⟩) (fun _ _ _ h _=>h),h.Olt⟩
def SRel.newBlk (h:SRel S A0 O w0 A σ w st tm) {d:Nat} (hd:st.hp d=none) {vs:Array Value} {el:TypeId} {blk:Blk} (hk:∀ s∈blk.refs,st.hp s≠none)
  (hb:zac S A (upd σ d (some w.heap.size)) (w.alloc (.cells vs el)) d blk) :
  SRel S A0 O w0 A (upd σ d (some w.heap.size)) (w.alloc (.cells vs el)) (st.setH d (some blk)) tm:=by
 have hσd:σ d=none:=by
  cases hq:σ d with
  | none=>rfl
  | some b=>exact absurd hd (h.dom d b hq).1
 have hA:∀ b,A b->(w.alloc (.cells vs el)).heap[b]? = w.heap[b]?:=fun b hb=>heap_alloc_old w _ b (h.Alt b hb);have bP:∀ s,st.hp s≠none->zcE σ (upd σ d (some w.heap.size)) w (w.alloc (.cells vs el)) s:=(by intro s hs;have ak:s≠d:=fun e=>hs (e ▸ hd);exact ⟨zcI _ _ _ ak,fun b cs bW hb hc=>⟨cs,by rw[heap_alloc_old w _ b (h.dom s b hb).2.1];exact hc,rfl⟩⟩)
 refine ⟨fun k=>(h.fr k).mono (fun _ h=>h) hA fun s hs=>bP s (h.dang k s hs),fun s b hs => ?_,fun k s hs => ?_,fun s cs hs s' ah => ?_,fun s b hs => ?_,fun s s' b h1 h2 => ?_,
  fun b hb=>by have:=h.Alt b hb;simp;omega,h.Asub,h.keep.trans (KeepO.alloc _ _ _),h.kp.same bP fun s z es he _=>by
   have ak:s≠d:=fun e=>by rw[e,hd] at he;cases he
   simp only[ASt.setH,upd,if_neg ak];exact he,h.Olt⟩
 ·simp only[ASt.setH,upd] at hs;split at hs
  ·rename_i e;subst e;cases hs;exact hb
  ·rename_i ak;refine (h.hp s b hs).mono (fun _ h=>h) hA (zcI _ _ _ ak) (fun b' aA=>heap_alloc_old w _ b' (h.dom s b' aA).2.1) fun s' ah=>bP s' ?_;cases b with
   | var cs=>exact h.dangV s cs hs s' (by rw[Blk.refs] at ah;exact ah)
   | arr z es=>simp[Blk.refs] at ah
 ·simp only[ASt.setH,upd];split
  ·simp
  ·exact h.dang k s hs
 ·simp only[ASt.setH,upd] at hs ⊢;split
  ·simp
  ·split at hs
   ·cases hs;exact hk s' (by rw[Blk.refs];exact ah)
   ·exact h.dangV s cs hs s' ah
 ·simp only[upd] at hs;split at hs
  ·rename_i e;subst e;cases hs;refine ⟨by simp[ASt.setH,upd],by simp,fun ha => ?_,.inl h.keep.size⟩;have:=h.Alt _ ha;omega
  ·rename_i ak;obtain ⟨k1,k2,k3,k4⟩:=h.dom s b hs;exact ⟨by simp[ASt.setH,upd,ak];exact k1,by simp;omega,k3,k4⟩
 ·simp only[upd] at h1 h2;split at h1
  ·rename_i e1;subst e1;cases h1;split at h2
   ·rename_i e2;exact e2.symm
   ·have:=(h.dom s' _ h2).2.1;omega
  ·split at h2
   ·rename_i e2;subst e2;cases h2;have:=(h.dom s _ h1).2.1;omega
   ·exact h.inj s s' b h1 h2
def wP (w:World) (g:Nat) (old new:Array Value) (el:TypeId) (hg:w.heap[g]? = some (.cells old el (0,0))) (hs:new.size=old.size) (s:Nat):zcE σ σ w (w.setRow g new) s:=by
 refine ⟨rfl,fun b cs bW _ hc => ?_⟩;by_cases hb:b=g
 ·subst hb;rw[hg] at hc;cases hc;exact ⟨new,setRow_heap w b old new el _ hg,hs⟩
 ·exact ⟨cs,by rw[setRow_other w g b new hb];exact hc,rfl⟩
def SRel.setBlk (h:SRel S A0 O w0 A σ w st tm) {s b:Nat} (hσ:σ s=some b) {old new:Array Value} {el:TypeId} (hg:w.heap[b]? = some (.cells old el (0,0))) (hs:new.size=old.size) {blk:Blk}
  (hk:∀ s'∈blk.refs,st.hp s'≠none) (hb:zac S A σ (w.setRow b new) s blk) (hf:∀ z es,bK s=true->st.hp s=some (.arr z es)->∃ aX,blk=.arr z aX∧aX.length=es.length):SRel S A0 O w0 A σ (w.setRow b new) (st.setH s (some blk)) tm:=by
 obtain ⟨d1,d2,d3,d4⟩:=h.dom s b hσ;have hA:∀ c,A c->(w.setRow b new).heap[c]? = w.heap[c]?:=fun c hc=>setRow_other w b c new (fun e=>d3 (e ▸ hc))
 refine ⟨fun k=>(h.fr k).mono (fun _ h=>h) hA fun s' _=>wP w b old new el hg hs s',fun s' b' ah => ?_,fun k s' ah => ?_,fun s' cs ah eH bu => ?_,fun s' b' ah => ?_,h.inj,
  fun c hc=>by rw[size_setRow];exact h.Alt c hc,h.Asub,⟨h.keep.os,h.keep.tape,h.keep.output,by rw[size_setRow];exact h.keep.size,fun k hk hO => ?_⟩,
  h.kp.of fun s' eE hn=>⟨wP w b old new el hg hs s',fun z es he=>by
   simp only[ASt.setH,upd];split
   ·rename_i e;subst e;obtain ⟨aX,k1,k2⟩:=hf z es eE he;exact ⟨aX,by rw[k1],k2⟩
   ·exact ⟨es,he,rfl⟩⟩,h.Olt⟩
 ·simp only[ASt.setH,upd] at ah;split at ah
  ·rename_i e;subst e;cases ah;exact hb
  ·rename_i ak;refine (h.hp s' b' ah).mono (fun _ h=>h) hA rfl (fun c hc=>setRow_other w b c new fun e=>ak (h.inj s' s b (e ▸ hc) hσ)) fun eH _=>wP w b old new el hg hs eH
 ·simp only[ASt.setH,upd];split
  ·simp
  ·exact h.dang k s' ah
 ·simp only[ASt.setH,upd] at ah ⊢;split
  ·simp
  ·split at ah
   ·cases ah;exact hk eH (by rw[Blk.refs];exact bu)
   ·exact h.dangV s' cs ah eH bu
 ·obtain ⟨k1,k2,k3,k4⟩:=h.dom s' b' ah;refine ⟨?_,by rw[size_setRow];exact k2,k3,k4⟩;simp only[ASt.setH,upd];split
  ·simp
  ·exact k1
 ·rw[setRow_other w b k new (fun e=>by subst e;exact d4.elim (fun d4=>by omega) hO)];exact h.keep.block k hk hO
def SRel.scrub (h:SRel S A0 O w0 A σ w st tm) (s:Nat):SRel S A0 O w0 A σ w (st.scrub s) tm:=by
 have hx:∀ x v,VR S A σ w x v->VR S A σ w (Ab.scrub s x) v:=by
  intro x v hv;unfold Ab.scrub;split
  ·exact .of0 (.bot v)
  ·exact hv
 have hr:∀ x s',s'∈(Ab.scrub s x).refs->s'∈x.refs:=by
  intro x s' hs;unfold Ab.scrub at hs;split at hs
  ·simp[AV.refs] at hs
  ·exact hs
 have hn:∀ k,(st.scrub s).hp k≠none↔st.hp k≠none:=by intro k;simp[ASt.scrub]
 refine ⟨fun k=>hx _ _ (h.fr k),fun s' blk hb => ?_,fun k s' ah=>(hn s').2 (h.dang k s' (hr _ _ ah)),fun s' cs ah eH bu=>(hn eH).2 ?_,fun s' b ah => ?_,h.inj,h.Alt,h.Asub,h.keep,h.kp.same (fun _ _=>⟨rfl,fun _ cs _ _ hb=>⟨cs,hb,rfl⟩⟩) (fun s' z es he _=>by simp[ASt.scrub,he,fS]),h.Olt⟩
 ·simp only[ASt.scrub,Ag] at hb;obtain ⟨b0,ca,rfl⟩:=hb;have:=h.hp s' b0 ca;cases b0 with
  | var cs =>obtain ⟨b,vs,el,h1,h2,h3,h4⟩:=this;refine ⟨b,vs,el,h1,h2,by simpa using h3,fun i x hi => ?_⟩;simp only[Au,Ag] at hi;obtain ⟨y,hy,rfl⟩:=hi;exact hx _ _ (h4 i y hy)
  | arr z es=>exact this
 ·simp only[ASt.scrub,Ag] at ah;obtain ⟨b0,ca,he⟩:=ah;cases b0 with
  | var gT =>simp only[fS,Blk.var.injEq] at he;subst he;rw[zm] at bu;obtain ⟨x,bd,ij⟩:=bu;rw[Aj] at bd;obtain ⟨y,hy,rfl⟩:=bd;exact h.dangV s' gT ca eH (zm.2 ⟨y,hy,hr _ _ ij⟩)
  | arr z es=>simp[fS] at he
 ·obtain ⟨k1,k2⟩:=h.dom s' b ah;exact ⟨(hn s').2 k1,k2⟩
def zfj (s:Nat) (x:AV):s ∉ (Ab.scrub s x).refs:=by
 unfold Ab.scrub;split
 ·simp[AV.refs]
 ·rename_i h;simpa using h
def VR.frz (h:SRel S A0 O w0 A σ w st tm) {s z0:Nat} {es:List (List AV)} (hb:st.hp s=some (.arr z0 es)) {x:AV} {v:Value} (hv:VR S A σ w x v) :
  VR S (fun b=>A b∨σ s=some b) (fun k=>if k=s then none else σ k) w (Ab.frz s z0 es x) v:=by
 have gen:x.refs.contains s=false->VR S (fun b=>A b∨σ s=some b) (fun k=>if k=s then none else σ k) w x v:=by
  intro hc;refine hv.mono (fun _ h=>.inl h) (fun _ _=>rfl) fun s' ah => ?_;have ak:s'≠s:=fun e=>by subst e;simp at hc;exact hc ah
  exact ⟨by simp[ak],fun b cs el _ hb=>⟨cs,hb,rfl⟩⟩
 obtain ⟨k0,kr⟩:=h.hp s _ hb;unfold Ab.frz;split
 ·rename_i s' z off len;split
  ·rename_i e;subst e;split
   ·rename_i hc;obtain ⟨rfl,hle⟩:=hc;have hlen:((es.drop off).take len).length=len:=by simp;omega
    rcases hv.lsl_inv with ⟨rfl,rfl,k1,rfl⟩ | ⟨b,o',cap,cs,el,rfl,k1,k2,k3,k4,k5,k6⟩
    ·exact .of0 (by simpa using VR0.slnil _)
    ·rcases kr with ⟨j1,_⟩ | ⟨b',vs,bW,j1,j2,j3,j5,j4⟩
     ·rw[j1] at k1;cases k1
     ·obtain rfl:b'=b:=Option.some.inj (j1.symm.trans k1);refine .of0 ?_;by_cases h0:len=0
      ·subst h0;simp only[BU];exact VR0.sl (es:=[]) (o:=o') (u:=fun _=>undef) (.inr k1) (BG _) (by simp) (by simp) (by simp) (by simp)
      ·have ho:=k3 (.inl (by omega));subst ho;have aM:len * z+off * z<=es.length * z:=by rw[← Bc];exact AP _ (by omega)
       have:=VR0.sl (S:=S) (A:=fun b=>A b∨σ s'=some b) (w:=w) (z:=z) (es:=(es.drop off).take len) (b:=b') (o:=off * z) (cap:=cap) (u:=fun j=>vs.getD (off * z+j) undef) (.inr k1) (by omega)
        (fun e he=>k0 e (BP (BJ he)))
        (fun j hj=>by
         rw[hlen] at hj;have:off * z+j < vs.size:=by omega
         simp[World.cell?,j2,this,Array.getD])
        (fun j hj=>by rw[hlen] at hj;exact j5 _ (by omega))
        (fun i e c a hi hc=>by
         have ae:i < len:=by have:=(Ac.1 hi).1;omega
         rw[AZ ae,BH] at hi;have:=(j4 _ _ _ _ hi hc).mono (A':=fun b=>A b∨σ s'=some b) (fun _ h=>.inl h) (fun _ _=>rfl)
         rwa [Bc,BB] at this)
       rwa [hlen] at this
   ·exact .of0 (.bot _)
  ·rename_i ak;exact gen (by simp[AV.refs,Ne.symm ak])
 ·rename_i s' z i off;split
  ·rename_i e;subst e;split
   ·rename_i hz;subst hz;split
    ·rename_i cs aq;obtain ⟨b,rfl,k1⟩:=hv.pe_inv;rcases kr with ⟨j1,_⟩ | ⟨b',vs,bW,j1,j2,j3,j5,j4⟩
     ·rw[j1] at k1;cases k1
     ·obtain rfl:b'=b:=Option.some.inj (j1.symm.trans k1);have bk:cs.length=z:=k0 _ (Ad aq);have hi:i < es.length:=(Ac.1 aq).1;have aM:(i+1) * z<=es.length * z:=AP _ hi;rw[Bc] at aM;exact .of0 (.ep (.inr k1) (u:=fun j=>vs.getD (i * z+j) undef) (fun j hj=>by
       have:i * z+j < vs.size:=by omega
       simp[World.cell?,j2,this,Array.getD]) fun j x hj=>(j4 _ _ _ _ aq hj).mono (fun _ h=>.inl h) (fun _ _=>rfl))
    ·exact .of0 (.bot _)
   ·exact .of0 (.bot _)
  ·rename_i ak;exact gen (by simp[AV.refs,Ne.symm ak])
 ·split
  ·exact .of0 (.bot _)
  ·rename_i hc;exact gen (by simpa using hc)
def o8 (s z0:Nat) (es:List (List AV)) (x:AV) (s':Nat) (h:s'∈(Ab.frz s z0 es x).refs):s'∈x.refs∧s'≠s:=by
 unfold Ab.frz at h;split at h
 ·split at h
  ·split at h<;>simp[AV.refs] at h
  ·rename_i ak;simp[AV.refs] at h;subst h;exact ⟨by simp[AV.refs],ak⟩
 ·split at h
  ·split at h
   ·split at h<;>simp[AV.refs] at h
   ·simp[AV.refs] at h
  ·rename_i ak;simp[AV.refs] at h;subst h;exact ⟨by simp[AV.refs],ak⟩
 ·split at h
  ·simp[AV.refs] at h
  ·rename_i hc;exact ⟨h,fun e=>by subst e;simp at hc;exact hc h⟩
def SRel.freeze (h:SRel S A0 O w0 A σ w st tm) (s:Nat) (eE:bK s=false):∃ A' σ',SRel S A0 O w0 A' σ' w (st.freeze s) tm∧(∀ b,A b->A' b)∧(∀ b,zbO st.hp s=true->σ s=some b->A' b) ∧
  (∀ s',s'≠s->σ' s'=σ s'∧zbO (st.freeze s).hp s'=zbO st.hp s'):=by
 unfold ASt.freeze;split
 ·rename_i z es hb
  refine ⟨fun b=>A b∨σ s=some b,fun k=>if k=s then none else σ k,⟨fun k=>VR.frz h hb (h.fr k),fun s' blk ah => ?_,fun k s' ah => ?_,fun s' cs ah eH bu => ?_,fun s' b ah => ?_,fun s1 s2 b h1 h2 => ?_,
   fun b aA => ?_,fun b aA => ?_,h.keep,h.kp.of fun s' ah hn => ?_,h.Olt⟩,fun b hb=>.inl hb,fun b _ hs=>.inr hs,fun s' ak=>⟨by simp[ak], ?_⟩⟩
  ·dsimp only at ah
   split at ah
   ·cases ah
   ·rename_i ak;simp only[Ag] at ah;obtain ⟨b0,ca,rfl⟩:=ah;have hr:=h.hp s' b0 ca;cases b0 with
    | var cs =>obtain ⟨b,vs,el,h1,h2,h3,h4⟩:=hr;refine ⟨b,vs,el,by simp[ak,h1],h2,by simpa using h3,fun i x hi => ?_⟩;simp only[Au,Ag] at hi;obtain ⟨y,hy,rfl⟩:=hi;exact VR.frz h hb (h4 i y hy)
    | arr z' aX =>exact hr.mono (fun _ h=>.inl h) (fun _ _=>rfl) (by simp[ak]) (fun _ _=>rfl) (by simp[Blk.refs])
  ·obtain ⟨k1,k2⟩:=o8 _ _ _ _ _ ah;have:=h.dang k s' k1;simp[k2,this]
  ·dsimp only at ah
   split at ah
   ·cases ah
   ·simp only[Ag] at ah;obtain ⟨b0,ca,he⟩:=ah;cases b0 with
    | var gT =>simp only[frzB,Blk.var.injEq] at he;subst he;rw[zm] at bu;obtain ⟨x,bd,ij⟩:=bu;rw[Aj] at bd;obtain ⟨y,hy,rfl⟩:=bd;obtain ⟨k1,k2⟩:=o8 _ _ _ _ _ ij;have:=h.dangV s' gT ca eH (zm.2 ⟨y,hy,k1⟩);simp[k2,this]
    | arr z' aX=>simp[frzB] at he
  ·split at ah
   ·cases ah
   ·rename_i ak;obtain ⟨k1,k2,k3,k4⟩:=h.dom s' b ah;exact ⟨by simp[ak,k1],k2,fun hh=>hh.elim k3 fun e=>ak (h.inj s' s b ah e),k4⟩
  ·split at h1
   ·cases h1
   ·split at h2
    ·cases h2
    ·exact h.inj s1 s2 b h1 h2
  ·rcases aA with aA | aA
   ·exact h.Alt b aA
   ·exact (h.dom s b aA).2.1
  ·rcases aA with aA | aA
   ·exact h.Asub b aA
   ·exact .inr (h.dom s b aA).2.2.2
  ·have ak:s'≠s:=fun e=>by rw[e,eE] at ah;cases ah
   exact ⟨⟨by simp[ak],fun b cs el _ hb=>⟨cs,hb,rfl⟩⟩,fun z es he=>⟨es,by simp[ak,he,frzB],rfl⟩⟩
  ·simp only[zbO,if_neg ak];cases hq:st.hp s' with
   | none=>simp
   | some b0=>cases b0<;>simp[frzB]
 ·rename_i hn;refine ⟨A,σ,h,fun _ h=>h,fun b hb _ => ?_,fun s' _=>⟨rfl,rfl⟩⟩;unfold zbO at hb;split at hb
  ·rename_i z es he;exact absurd he (hn z es)
  ·cases hb
def SRel.freezeL:∀ (l:List Nat) {A:Nat->Prop} {σ:Nat->Option Nat} {st:ASt},SRel S A0 O w0 A σ w st tm->fN l=true->∃ A' σ',SRel S A0 O w0 A' σ' w (st.freezeL l) tm∧(∀ b,A b->A' b) ∧
  (∀ s∈l,∀ b,zbO st.hp s=true->σ s=some b->A' b)
 | [],A,σ,st,h,_=>⟨A,σ,h,fun _ h=>h,by simp⟩
 | s :: r,A,σ,st,h,hl=>by
  simp only[fN,A9,An,AW] at hl;obtain ⟨A1,σ1,h1,m1,k1,k2⟩:=h.freeze s hl.1;obtain ⟨A2,σ2,h2,m2,k3⟩:=SRel.freezeL r h1 hl.2;refine ⟨A2,σ2,h2,fun b hb=>m2 b (m1 b hb),fun s' ah b ha hs => ?_⟩;by_cases e:s'=s
  ·subst e;exact m2 b (k1 b ha hs)
  ·obtain ⟨e1,e2⟩:=k2 s' e;rcases As.1 ah with ah | ah
   ·exact absurd ah e
   ·exact k3 s' ah b (e2.trans ha) (e1.trans hs)
end
end
section
open Go Go.RowKit
section
variable {S:Seat} {A0:Nat->Prop} {O:Hnd} {w0:World} {A:Nat->Prop} {σ:Nat->Option Nat} {w:World} {st aa:ASt} {tm:Array Value} {df:List Deferred} {o:Oper} {v:AV} {d:Nat}
def zhw (h:SRel S A0 O w0 A σ w st tm) (hd:st.hp d=none) {cs:List AV} {y:Value} {e:TypeId} (hr:(execOp (Act.eval ⟨tm,df⟩) o).run S.P w=.ok (.value (.pointer (some ⟨w.heap.size,0,none⟩))) (w.alloc (.cells y.cells e)))
  (h1:cs.length=y.cells.size) (h2:∀ (i:Nat) (a:AV),cs[i]? = some a->VR S A σ w a (y.cells.getD i undef)) (h3:∀ s∈AV.refsL cs,st.hp s≠none) :
  wK S A0 O w0 w tm df o (.pv d 0) (st.setH d (some (.var cs))):=by
 refine ⟨_,_,A,_,hr,h.newBlk (vs:=y.cells) (el:=e) (blk:=.var cs) hd (by rw[Blk.refs];exact h3) ?_,.inl ⟨_,rfl,.pv (qG _ _ _),fun s hs => ?_⟩⟩
 ·refine ⟨w.heap.size,y.cells,e,qG _ _ _,heap_alloc_new w _,by omega,fun i x hx=>(h2 i x hx).mono (fun _ h=>h) (fun b hb=>heap_alloc_old w _ b (h.Alt b hb)) fun s hs => ?_⟩;have ah:=h3 s (zm.2 ⟨x,Ad hx,hs⟩);have ak:s≠d:=fun e=>ah (e ▸ hd);exact ⟨zcI _ _ _ ak,fun b cs bW hb hc=>⟨cs,by rw[heap_alloc_old w _ b (h.dom s b hb).2.1];exact hc,rfl⟩⟩
 ·rw[AV.refs,Ai] at hs;subst hs;simp[ASt.setH,upd]
def op_box (h:SRel S A0 O w0 A σ w st tm) {e:TypeId} {x:Operand} {x':AOpd} (ho:o.op=.box e x) (h1:qF S x=some x') (ha:aop (.box x') d st=some (v,aa)):wK S A0 O w0 w tm df o v aa:=by
 have g1:=h.ev (df:=df) h1;simp only[aop] at ha;split at ha
 ·rename_i cs aq hd;simp only[Option.some.injEq,Prod.mk.injEq] at ha;obtain ⟨rfl,rfl⟩:=ha;obtain ⟨k1,k2,k3,k4⟩:=g1.rel.cells aq;exact zhw h hd (y:=Act.eval ⟨tm,df⟩ x) (e:=e) (by simp[execOp,ho,Instr.box,newVar,newRow]) k1 k2 fun s hs=>g1.dang s ((k4 s).1 hs)
 ·cases ha
def yo {P:Program} {t:TypeId} {l:List Value} (h:zgq P t=some l):∃ i z,P.info? t=some i∧i.zero=some z∧z.cells.toList=l∧z.cells.size=i.size∧0 < i.size∧∀ x∈l,zal x=true:=by
 unfold zgq at h;split at h
 ·rename_i i hi;split at h
  ·rename_i z hz;split at h
   ·rename_i hc;cases h;exact ⟨i,z,hi,hz,rfl,hc.1,hc.2.1,Ae.1 hc.2.2⟩
   ·cases h
  ·cases h
 ·cases h
def zjy {z:Value} (i:Nat) (a:AV) (hi:(z.cells.toList.map AV.v)[i]? = some a):VR S A σ w a (z.cells.getD i undef):=by simp only[Au,Ag] at hi;obtain ⟨y,hy,rfl⟩:=hi;have:z.cells.getD i undef=y:=(by rw[Aq];simp only[BM] at hy;rw[hy];rfl);rw[this];exact .of0 (.v y)
def refsL_v (l:List Value):AV.refsL (l.map AV.v)=[]:=by
 induction l with
 | nil=>rfl
 | cons x r ih=>simp[AV.refsL,AV.refs,ih]
def op_alloc (h:SRel S A0 O w0 A σ w st tm) {e:TypeId} {l:List Value} (ho:o.op=.alloc e) (hz:zgq S.P e=some l) (ha:aop (.alloc l) d st=some (v,aa)):wK S A0 O w0 w tm df o v aa:=by
 obtain ⟨i,z,k1,k2,rfl,k4,k5,_⟩:=yo hz;simp only[aop] at ha;split at ha
 ·rename_i hd;simp only[Option.some.injEq,Prod.mk.injEq] at ha;obtain ⟨rfl,rfl⟩:=ha;exact zhw h hd (y:=z) (e:=e) (by simp[execOp,ho,Instr.alloc,zeroValue,typeInfo,k1,k2,newVar,newRow]) (by simp) (fun i a hi=>zjy i a hi) (by rw[refsL_v];simp)
 ·cases ha
def jW {cs new:List AV} {off:Nat} (h:off+new.length<=cs.length):(q8 cs off new).length=cs.length:=by simp[q8];omega
def yb {cs new:List AV} {off:Nat} (h:off+new.length<=cs.length) (i:Nat):(q8 cs off new)[i]? = if off<=i∧i < off+new.length then new[i - off]? else cs[i]?:=by
 have ht:(cs.take off).length=off:=by simp;omega
 unfold q8;by_cases h1:i < off
 ·rw[if_neg (by omega),AN,AJ (by omega),AZ h1]
 ·by_cases h2:i < off+new.length
  ·rw[if_pos (by omega),AN,AK (by omega),ht,AJ (by omega)]
  ·rw[if_neg (by omega),AK (by simp;omega),BH];congr 1;simp;omega
def zf_list (off:Nat):∀ (l:List Value) (k:Nat) (arr:Array Value),off+k+l.length<=arr.size ->
  ((l.zipIdx k).foldl (fun cs p=>cs.setIfInBounds (off+p.2) p.1) arr).size=arr.size ∧
  ∀ i,((l.zipIdx k).foldl (fun cs p=>cs.setIfInBounds (off+p.2) p.1) arr).getD i undef=if off+k<=i∧i < off+k+l.length then l.getD (i - (off+k)) undef else arr.getD i undef
 | [],k,arr,_=>by
  refine ⟨rfl,fun i => ?_⟩;simp only[List.zipIdx_nil,CW,Bu];rw[if_neg (by omega)]
 | x :: r,k,arr,h=>by
  simp only[Ax] at h;obtain ⟨h1,h2⟩:=zf_list off r (k+1) (arr.setIfInBounds (off+k) x) (by simp;omega);simp only[List.zipIdx_cons,Bv];refine ⟨by rw[h1];simp,fun i => ?_⟩;rw[h2 i,yZ _ _ _ _ _ (by omega)];simp only[Ax];by_cases e1:off+(k+1)<=i∧i < off+(k+1)+r.length
  ·rw[if_pos e1,if_pos (by omega),show i - (off+k)=(i - (off+(k+1)))+1 by omega];rfl
  ·rw[if_neg e1];by_cases e2:i=off+k
   ·subst e2;rw[if_pos rfl,if_pos (by omega)];simp
   ·rw[if_neg e2,if_neg (by omega)]
def zf_arr (off:Nat) (vs arr:Array Value) (h:off+vs.size<=arr.size) :
  (vs.zipIdx.foldl (fun cs (c,j)=>cs.setIfInBounds (off+j) c) arr).size=arr.size ∧
  ∀ i,(vs.zipIdx.foldl (fun cs (c,j)=>cs.setIfInBounds (off+j) c) arr).getD i undef=if off<=i∧i < off+vs.size then vs.getD (i - off) undef else arr.getD i undef:=by
 have:=zf_list off vs.toList 0 arr (by simpa using h);rw[← Array.foldl_toList,Array.toList_zipIdx];refine ⟨this.1,fun i => ?_⟩;have h2:=this.2 i;simp only[BD,C4] at h2;refine h2.trans ?_;congr 1;simp[Aq,List.getD]
def fill_ok {R:AV->Value->Prop} (place:Nat->Option (Nat×Nat)):∀ (ps:List (Nat×List AV)) (zero res:List AV) (rs:List (Nat×Value)) (arr:Array Value),
  ziV zero ps=some res->zero.length=arr.size->(∀ (i:Nat) (a:AV),zero[i]? = some a->R a (arr.getD i undef))->ps.length=rs.length ->
  (∀ (j:Nat) (p:Nat×List AV) (r:Nat×Value),ps[j]? = some p->rs[j]? = some r->place r.1=some (p.1,p.2.length)∧p.2.length=r.2.cells.size∧∀ (i:Nat) (a:AV),p.2[i]? = some a->R a (r.2.cells.getD i undef)) ->
  ∃ aD,Instr.fill place arr rs=some aD∧res.length=aD.size∧∀ (i:Nat) (a:AV),res[i]? = some a->R a (aD.getD i undef)
 | [],zero,res,rs,arr,hf,hl,hr,hn,_=>by
  cases rs with
  | nil=>simp only[ziV,Option.some.injEq] at hf;subst hf;exact ⟨arr,rfl,hl,hr⟩
  | cons=>simp at hn
 | (off,cs) :: ps,zero,res,rs,arr,hf,hl,hr,hn,hp=>by
  cases rs with
  | nil=>simp at hn
  | cons r rs =>
   obtain ⟨k1,k2,k3⟩:=hp 0 (off,cs) r rfl rfl;simp only at k1 k2 k3;simp only[ziV] at hf;split at hf
   ·rename_i hle;obtain ⟨z1,z2⟩:=zf_arr off r.2.cells arr (by omega);obtain ⟨aD,f1,f2,f3⟩:=fill_ok place ps (q8 zero off cs) res rs _ hf (by rw[jW hle,z1];exact hl) (fun i a hi=>by
     rw[yb hle] at hi;rw[z2];split at hi
     ·rename_i hc;rw[if_pos (by omega)];exact k3 _ _ hi
     ·rename_i hc;rw[if_neg (by omega)];exact hr _ _ hi) (by simpa using hn) (fun j p r hj hk=>hp (j+1) p r (by simpa using hj) (by simpa using hk))
    refine ⟨aD, ?_,f2,f3⟩;obtain ⟨ri,rv⟩:=r;have k2':cs.length=rv.cells.size:=k2;simp only[Instr.fill,k1];rw[if_neg (by simp;omega)];exact f1
   ·cases hf
def zG {α β:Type} {f:α->Option β}:∀ {xs:List α} {ys:List β},zj f xs=some ys->xs.length=ys.length∧∀ (i:Nat) (y:β),ys[i]? = some y->∃ x,xs[i]? = some x∧f x=some y
 | [],ys,h=>by simp only[zj,Option.some.injEq] at h;subst h;exact ⟨rfl,by simp⟩
 | x :: xs,ys,h=>by
  simp only[zj] at h;split at h
  ·rename_i y bN hy dh;cases h;obtain ⟨h1,h2⟩:=zG dh;refine ⟨by simp[h1],fun i y' hi => ?_⟩;cases i with
   | zero=>simp at hi;subst hi;exact ⟨x,rfl,hy⟩
   | succ i=>simp at hi;obtain ⟨x',h3,h4⟩:=h2 i y' hi;exact ⟨x',by simpa using h3,h4⟩
  ·cases h
def pr {P:Program}:∀ (fs:List Field) (l:List Nat),zj (fun (f:Field)=>zae P f.type) fs=some l ->
  ∃ places,fs.mapM (fun f=>(P.info? f.type).map fun i=>(f.offset,i.size))=some places∧∀ (j:Nat) (f:Field) (n:Nat),fs[j]? = some f->zae P f.type=some n->places[j]? = some (f.offset,n)
 | [],l,_=>⟨[],rfl,by simp⟩
 | f :: fs,l,h=>by
  simp only[zj] at h;split at h
  ·rename_i y ys hy dh;obtain ⟨places,h1,h2⟩:=pr fs ys dh;obtain ⟨i,hi,rfl⟩:∃ i,P.info? f.type=some i∧i.size=y:=by simpa[zae] using hy
   refine ⟨(f.offset,i.size) :: places,by simp[CV,hi,h1],fun j f' n hj hn => ?_⟩;cases j with
   | zero=>simp at hj;subst hj;simp[zae,hi] at hn;subst hn;rfl
   | succ j=>simp at hj;simpa using h2 j f' n hj hn
  ·cases h
def op_build (h:SRel S A0 O w0 A σ w st tm) {t:TypeId} {ps:Array (Nat×Operand)} {fs:Array Field} {zero:List Value} {l:List (Nat×Nat×AOpd)} {szs:List Nat} (ho:o.op=.build t ps) (hu:S.P.underlying t=some (.struct fs))
  (hz:zgq S.P t=some zero) (hl:zj (fun (p:Nat×Operand)=>match zew S.P t p.1,qF S p.2 with | some f,some x=>(match zae S.P f.type with | some n=>some (f.offset,n,x) | none=>none) | _,_=>none) ps.toList=some l)
  (hs:zj (fun (f:Field)=>zae S.P f.type) fs.toList=some szs) (ha:aop (.build zero l) d st=some (v,aa)):wK S A0 O w0 w tm df o v aa:=by
 obtain ⟨i,z,k1,k2,rfl,k4,k5,_⟩:=yo hz;obtain ⟨places,p1,p2⟩:=pr _ _ hs;simp only[aop] at ha;split at ha
 ·rename_i pcs fm;split at ha
  ·rename_i res aT;simp only[Option.some.injEq,Prod.mk.injEq] at ha;obtain ⟨rfl,rfl⟩:=ha;obtain ⟨a1,a2⟩:=zG hl;obtain ⟨b1,b2⟩:=zG fm
   have main:=fill_ok (R:=fun a x=>Got S A σ w st a x) (fun x=>places[x]?) pcs (z.cells.toList.map AV.v) res (ps.toList.map fun p=>(p.1,Act.eval ⟨tm,df⟩ p.2)) z.cells aT (by simp)
    (fun i a hi=>⟨zjy i a hi,fun s hs=>by have:=zm.2 ⟨a,Ad hi,hs⟩;rw[refsL_v] at this;cases this⟩) (by rw[Ao];omega)
    (fun j p r hj hr=>by
     obtain ⟨q,hq,b9⟩:=b2 j p hj;obtain ⟨q0,gH,dT⟩:=a2 j q hq;simp only[Au,gH,AH,Option.some.injEq] at hr;subst hr;split at dT
     ·rename_i f x hf hx;split at dT
      ·rename_i n hn;cases dT;simp only at b9;split at b9
       ·rename_i cs aq;split at b9
        ·rename_i hlen;cases b9;have g:=h.ev (df:=df) hx;obtain ⟨c1,c2,c3,c4⟩:=g.rel.cells aq;refine ⟨?_,c1,fun i a hi=>⟨c2 i a hi,fun s hs=>g.dang s ((c4 s).1 (zm.2 ⟨a,Ad hi,hs⟩))⟩⟩;have hfj:fs.toList[q0.1]? = some f:=by simpa[zew,hu] using hf
         simp only[hlen];exact p2 _ _ _ hfj hn
        ·cases b9
       ·cases b9
      ·cases dT
     ·cases dT)
   obtain ⟨aD,f1,f2,f3⟩:=main;refine .same h (rv:=.agg aD) ?_ ⟨.agg f2 fun i a hi=>(f3 i a hi).rel,fun s hs => ?_⟩
   ·have hb:S.P.built t (ps.map fun (i,x)=>(i,Act.eval ⟨tm,df⟩ x)).toList=some aD:=(by simp only[Program.built,k1,hu,k2,p1];simpa using f1);have:=run_build (P:=S.P) w t _ aD hb;simp[execOp,ho,this]
   ·rw[AV.refs,zm] at hs;obtain ⟨x,hx,hs⟩:=hs;obtain ⟨i,hi⟩:=AA.1 hx;exact (f3 i x hi).dang s hs
  ·cases ha
 ·cases ha
end
end
section
open Go Go.RowKit
section
variable {S:Seat} {A0:Nat->Prop} {O:Hnd} {w0:World} {A:Nat->Prop} {σ:Nat->Option Nat} {w:World} {st aa:ASt} {tm:Array Value} {df:List Deferred} {o:Oper} {v:AV} {d:Nat}
structure RowRel (R:AV->Value->Prop) (z:Nat) (es:List (List AV)) (arr:Array Value):Prop where
 size:arr.size=es.length * z
 each:∀ e∈es,e.length=z
 rel:∀ (i:Nat) (e:List AV) (c:Nat) (x:AV),es[i]? = some e->e[c]? = some x->R x (arr.getD (i * z+c) undef)
 one:∀ j,j < arr.size->(arr.getD j undef).oneCell'=true
def zhK {i c z n:Nat} (hi:i < n) (hc:c < z):i * z+c < n * z:=by have:(i+1) * z<=n * z:=AP _ hi;rw[Bc] at this;omega
def zhI {i j c z:Nat} (h1:j * z<=i * z+c) (h2:i * z+c < j * z+z) (hc:c < z):i=j:=by
 rcases Nat.lt_trichotomy i j with h | h | h
 ·have:(i+1) * z<=j * z:=AP _ h;rw[Bc] at this;omega
 ·exact h
 ·have:(j+1) * z<=i * z:=AP _ h;rw[Bc] at this;omega
def zco {R:AV->Value->Prop} {z:Nat}:∀ (ps:List (Nat×List AV)) (es:List (List AV)) (rs:List (Nat×Value)) (arr:Array Value),RowRel R z es arr->ps.length=rs.length ->
  (∀ (j:Nat) (p:Nat×List AV) (r:Nat×Value),ps[j]? = some p->rs[j]? = some r->r.1=p.1∧p.1 < es.length∧p.2.length=z∧p.2.length=r.2.cells.size∧(∀ (i:Nat) (a:AV),p.2[i]? = some a->R a (r.2.cells.getD i undef)) ∧
   ∀ x∈r.2.cells.toList,x.oneCell'=true) ->
  ∃ aD,Instr.fill (fun i=>some (i * z,z)) arr rs=some aD∧RowRel R z (ps.foldl (fun es p=>es.set p.1 p.2) es) aD
 | [],es,rs,arr,h,hn,_=>by
  cases rs with
  | nil=>exact ⟨arr,rfl,h⟩
  | cons=>simp at hn
 | (k,cs) :: ps,es,rs,arr,h,hn,hp=>by
  cases rs with
  | nil=>simp at hn
  | cons r rs =>
   obtain ⟨ri,rv⟩:=r;obtain ⟨k1,k2,k3,k4,k5,k6⟩:=hp 0 (k,cs) (ri,rv) rfl rfl;simp only at k1 k2 k3 k4 k5 k6;subst k1;have hle:ri * z+rv.cells.size<=arr.size:=(by rw[h.size,← k4,k3];have:(ri+1) * z<=es.length * z:=AP _ k2;rw[Bc] at this;omega);obtain ⟨z1,z2⟩:=zf_arr (ri * z) rv.cells arr hle;have h':RowRel R z (es.set ri cs) (rv.cells.zipIdx.foldl (fun cs (c,j)=>cs.setIfInBounds (ri * z+j) c) arr):=by
    refine ⟨by rw[z1,h.size];simp,fun e he => ?_,fun i e c x hi hc => ?_,fun j hj => ?_⟩
    ·rcases Cg he with he | rfl
     ·exact h.each e he
     ·exact k3
    ·rw[z2];by_cases ny:ri=i
     ·subst ny;rw[Cm k2] at hi;cases hi;have bk:=(Ac.1 hc).1;rw[if_pos (by omega),show ri * z+c - ri * z=c by omega];exact k5 c x hc
     ·have ak:=ny;rw[Cw ny] at hi;have n5:=h.each e (Ad hi);have bk:=(Ac.1 hc).1;rw[if_neg (fun hh=>ak (zhI hh.1 (by omega) (by omega)).symm)];exact h.rel i e c x hi hc
    ·rw[z2];rw[z1] at hj;by_cases hc:ri * z<=j∧j < ri * z+rv.cells.size
     ·rw[if_pos hc];apply k6;have:j - ri * z < rv.cells.size:=by omega
      rw[CZ];simp[Array.getD,this]
     ·rw[if_neg hc];exact h.one j hj
   obtain ⟨aD,f1,f2⟩:=zco ps (es.set ri cs) rs _ h' (by simpa using hn) (fun j p r hj hk=>by simpa using hp (j+1) p r (by simpa using hj) (by simpa using hk));refine ⟨aD, ?_,f2⟩;simp only[Instr.fill];rw[if_neg (by simp;omega)];exact f1
def zim {R:AV->Value->Prop} {z:Value} {n:Nat} (hs:0 < z.cells.size) (hR:∀ x∈z.cells.toList,R (.v x) x) (h1:∀ x∈z.cells.toList,x.oneCell'=true) :
  RowRel R z.cells.size (List.replicate n (z.cells.toList.map AV.v)) ((Array.range (n * z.cells.size)).map (z.cells[· % z.cells.size]!)):=by
 have get:∀ j,j < n * z.cells.size->((Array.range (n * z.cells.size)).map (z.cells[· % z.cells.size]!)).getD j undef=z.cells[j % z.cells.size]'(CQ _ hs):=(by intro j hj;have hm:=CQ j hs;simp[Array.getD,hj,getElem!_pos,hm]);refine ⟨by simp,fun e he => ?_,fun i e c x hi hc => ?_,fun j hj => ?_⟩
 ·rw[List.mem_replicate] at he;rw[he.2];simp
 ·rw[Cj] at hi;split at hi
  ·rename_i aH;cases hi;have bk:=(Ac.1 hc).1;simp only[Ao,C4] at bk;simp only[Au,Ag] at hc;obtain ⟨y,hy,rfl⟩:=hc;rw[get _ (zhK aH bk)];have nJ:(i * z.cells.size+c) % z.cells.size=c:=by rw[CC,Nat.mul_add_mod];exact Nat.mod_eq_of_lt bk
   have hyv:z.cells[(i * z.cells.size+c) % z.cells.size]'(CQ _ hs)=y:=by
    have:z.cells[c]? = some y:=by simpa using hy
    obtain ⟨h2,h3⟩:=Br.1 this;simp only[nJ,h3]
   rw[hyv];exact hR y (Ad hy)
  ·cases hi
 ·simp only[Array.size_map,Array.size_range] at hj;rw[get j hj];exact h1 _ (by rw[CZ];exact Array.getElem_mem _)
def RowRel.blk {z:Nat} {es:List (List AV)} {arr:Array Value} {w':World} {σ':Nat->Option Nat} {s b:Nat} {el:TypeId} (h:RowRel (VR0 S A w') z es arr) (hσ:σ' s=some b) (hb:w'.heap[b]? = some (.cells arr el (0,0))) :
  zac S A σ' w' s (.arr z es) :=
 ⟨h.each,.inr ⟨b,arr,el,hσ,hb,by rw[h.size];exact AG _,fun j hj=>h.one j (by rw[h.size];exact hj),h.rel⟩⟩
def RowRel.imp {R R':AV->Value->Prop} {z:Nat} {es:List (List AV)} {arr:Array Value} (h:RowRel R z es arr) (hr:∀ x v,R x v->R' x v):RowRel R' z es arr :=
 ⟨h.size,h.each,fun i e c x hi hc=>hr _ _ (h.rel i e c x hi hc),h.one⟩
def zbb {x:Value} (h:zal x=true):x.oneCell'=true:=by cases x<;>simp_all[zal,Value.oneCell']
def wz (h:SRel S A0 O w0 A σ w st tm) {A':Nat->Prop} (hA:∀ b,A b->A' b) {x y:AV} {v:Value} (hv:VR S A σ w x v) (hs:qB st.hp x=some y) (hr:∀ s∈x.refs,∀ b,σ s=some b->A' b) :
  VR0 S A' w y v∧∀ s∈x.refs,zbO st.hp s=true:=by
 unfold qB at hs;split at hs
 ·rename_i s z i off;split at hs
  ·rename_i z' es hb;split at hs
   ·rename_i hz;split at hs
    ·rename_i cs aq;cases hs;have:=VR.frz h hb hv;simp only[Ab.frz,if_true,hz,aq] at this;refine ⟨?_,fun s' ah=>by rw[AV.refs,Ai] at ah;subst ah;simp[zbO,hb]⟩;cases this with
     | of0 h0=>exact h0.mono (fun b (hb:A b∨σ s=some b)=>hb.elim (hA b) (hr s (by simp[AV.refs]) b)) (fun _ _=>rfl)
    ·cases hs
   ·cases hs
  ·cases hs
 ·rename_i s z off len;split at hs
  ·rename_i z' es hb;split at hs
   ·rename_i hz;cases hs;have:=VR.frz h hb hv;simp only[Ab.frz,if_true,hz.1,hz.2,and_self] at this;refine ⟨?_,fun s' ah=>by rw[AV.refs,Ai] at ah;subst ah;simp[zbO,hb]⟩;cases this with
    | of0 h0=>exact (hz.1 ▸ h0).mono (fun b (hb:A b∨σ s=some b)=>hb.elim (hA b) (hr s (by simp[AV.refs]) b)) (fun _ _=>rfl)
   ·cases hs
  ·cases hs
 ·cases hs
 ·split at hs
  ·rename_i he;cases hs;have gP:x.refs=[]:=by simpa using he
   exact ⟨(hv.to0 gP).mono hA (fun _ _=>rfl),by rw[gP];simp⟩
  ·cases hs
def zcW:∀ (l:List Nat) {st:ASt} {d:Nat},st.hp d=none->(st.freezeL l).hp d=none
 | [],_,_,h=>h
 | s :: r,st,d,h=>by
  refine zcW r ?_;unfold ASt.freeze;split
  ·simp[h]
  ·exact h
def yp {P:Program} {t:TypeId} {p:TypeId×Nat} (h:zfd P t=some p):P.underlying t=some (.slice p.1)∧∃ i,P.info? p.1=some i∧i.size=p.2∧0 < i.size∧i.size<=128∧i.bytes<=iW i.size:=by
 unfold zfd at h;split at h
 ·rename_i e hu;split at h
  ·rename_i i hi;split at h
   ·rename_i hc;cases h;exact ⟨hu,i,hi,rfl,hc.1,hc.2.1,hc.2.2⟩
   ·cases h
  ·cases h
 ·cases h
def run_bsl {P:Program} (w:World) (t e:TypeId) (len:Nat) (parts:Array (Nat×Value)) (cells:Array Value) (ie:TypeInfo) (z:Value)
  (hu:P.underlying t=some (.slice e)) (rj:P.info? e=some ie) (hz:ie.zero=some z) (il:¬ len * ie.size > 2 ^ 24)
  (h:Instr.fill (fun i=>some (i * ie.size,ie.size)) ((Array.range (len * ie.size)).map (z.cells[· % z.cells.size]!)) parts.toList=some cells) :
  (Instr.buildSlice t len parts).run P w=.ok (.slice (some ⟨w.heap.size,0,none⟩) len len) (w.alloc (.cells cells e)):=by
 by_cases bw:len * ie.size=0
 ·rw[bw] at h;have h0:(Array.range 0).map (z.cells[· % z.cells.size]!)=#[]:=by rw[Array.map_eq_empty_iff];exact Cs (by simp)
  rw[h0] at h;simp[Instr.buildSlice,run_underlying hu,Go.sizeOf,typeInfo,rj,bw,newRow];have h2:∀ f:Nat->Value,Array.map f (Array.range 0)=#[]:=fun f=>by rw[Array.map_eq_empty_iff];exact Cs (by simp)
  simp[h2,h]
 ·exact run_buildSlice w t e len parts cells ie z hu rj hz il bw h
def op_bslice (h:SRel S A0 O w0 A σ w st tm) {t e:TypeId} {i:TypeInfo} {z:Value} {len:Nat} {ps:Array (Nat×Operand)} {l:List (Nat×AOpd)} {frz:Bool} (ho:o.op=.buildSlice t len ps) (hu:S.P.underlying t=some (.slice e)) (hi:S.P.info? e=some i) (hz:i.zero=some z)
  (dk:z.cells.size=i.size) (bw:0 < i.size) (bV:i.size<=128) (aV:∀ x∈z.cells.toList,zal x=true) (hl:zj (fun (p:Nat×Operand)=>if p.1 < len then (qF S p.2).map fun x=>(p.1,x) else none) ps.toList=some l)
  (hlen:len<=4096) (ha:aop (.bslice frz i.size z.cells.toList len l) d st=some (v,aa)):wK S A0 O w0 w tm df o v aa:=by
 simp only[aop] at ha;split at ha
 ·rename_i pcs hd fm;split at ha
  ·simp only[Option.some.injEq,Prod.mk.injEq] at ha;obtain ⟨rfl,rfl⟩:=ha;obtain ⟨A1,σ1,h1,m1,m2⟩:=h.freezeL (ju st l) (by
    rename_i dw;rcases dw with dw | dw
    ·exact dw.2
    ·rw[dw];rfl)
   obtain ⟨a1,a2⟩:=zG hl;obtain ⟨b1,b2⟩:=zG fm;have zr:=zim (R:=VR0 S A1 w) (z:=z) (n:=len) (by omega) (fun x _=>.v x) (fun x hx=>zbb (aV x hx));rw[dk] at zr
   obtain ⟨aD,f1,f2⟩:=zco (R:=VR0 S A1 w) (z:=i.size) pcs (List.replicate len (z.cells.toList.map AV.v)) (ps.toList.map fun p=>(p.1,Act.eval ⟨tm,df⟩ p.2)) _ zr (by rw[Ao];omega)
    (fun j p r hj hr=>by
     obtain ⟨q,hq,b9⟩:=b2 j p hj;obtain ⟨q0,gH,dT⟩:=a2 j q hq;simp only[Au,gH,AH,Option.some.injEq] at hr;subst hr;split at dT
     ·rename_i ae;simp only[Ag] at dT;obtain ⟨x,hx,rfl⟩:=dT;split at b9
      ·rename_i gT iK;split at b9
       ·rename_i cs aq;split at b9
        ·rename_i bk;cases b9;have g:=h.ev (df:=df) hx;obtain ⟨c1,c2,c3,c4⟩:=g.rel.cells iK;obtain ⟨d1,d2⟩:=zG aq;refine ⟨rfl,by simpa using ae,bk,by simp only;omega,fun i a hi => ?_,c3⟩;obtain ⟨x0,aC,aF⟩:=d2 i a hi;have gh:∀ s∈x0.refs,s∈ju st l:=fun s hs=>(by unfold ju;rw[zm];exact ⟨st.ev x,Aj.2 ⟨_,Ad hq,rfl⟩,(c4 s).1 (zm.2 ⟨x0,Ad aC,hs⟩)⟩);have arrs:=(wz h (A':=fun _=>True) (fun _ _=>trivial) (c2 i x0 aC) aF (fun _ _ _ _=>trivial)).2;exact (wz h m1 (c2 i x0 aC) aF fun s hs b hb=>m2 s (gh s hs) b (arrs s hs) hb).1
        ·cases b9
       ·cases b9
      ·cases b9
     ·cases dT)
   have aG:=run_bsl (P:=S.P) w t e len (ps.map fun (i,x)=>(i,Act.eval ⟨tm,df⟩ x)) aD i z hu hi hz (by
     have:len * i.size<=4096 * 128:=BT hlen bV
     omega) (by rw[dk];simpa using f1)
   have me:RowRel (VR0 S A1 (w.alloc (.cells aD e))) i.size (pcs.foldl (fun es p=>es.set p.1 p.2) (List.replicate len (z.cells.toList.map AV.v))) aD :=
    f2.imp fun x v hx=>hx.mono (fun _ h=>h) fun b hb=>heap_alloc_old w _ b (h1.Alt b hb)
   have dz:(pcs.foldl (fun es p=>es.set p.1 p.2) (List.replicate len (z.cells.toList.map AV.v))).length=len:=by
    have:∀ (ps:List (Nat×List AV)) (es:List (List AV)),(ps.foldl (fun es p=>es.set p.1 p.2) es).length=es.length:=by
     intro ps
     induction ps with
     | nil=>intro es;rfl
     | cons p ps ih=>intro es;simp only[Bv];rw[ih];simp
    rw[this];simp
   refine ⟨.value (.slice (some ⟨w.heap.size,0,none⟩) len len),_,A1,_,by simp only[execOp,ho,Sem.run_bind,aG,Result.andThen_ok,Sem.run_pure],h1.newBlk (vs:=aD) (el:=e) (zcW _ hd) (by simp[Blk.refs]) (me.blk (qG _ _ _) (heap_alloc_new w _)),.inl ⟨_,rfl, ?_,fun s hs => ?_⟩⟩
   ·refine .lsl (cs:=aD) (el:=e) (qG _ _ _) (AG _) (fun _=>by simp) (heap_alloc_new w _) (by rw[me.size,dz];simp) (by unfold maxLen;omega)
   ·rw[AV.refs,Ai] at hs;subst hs;simp[ASt.setH,upd]
  ·cases ha
 ·cases ha
def op_mksl (h:SRel S A0 O w0 A σ w st tm) {t e:TypeId} {i:TypeInfo} {z:Value} {n c:Operand} {n' c':AOpd} (ho:o.op=.makeSlice t n c) (hu:S.P.underlying t=some (.slice e)) (hi:S.P.info? e=some i) (hz:i.zero=some z)
  (dk:z.cells.size=i.size) (bw:0 < i.size) (bV:i.bytes<=iW i.size) (aV:∀ x∈z.cells.toList,zal x=true) (h1:qF S n=some n') (h2:qF S c=some c')
  (ha:aop (.mksl i.size z.cells.toList n' c') d st=some (v,aa)):wK S A0 O w0 w tm df o v aa:=by
 have g1:=h.ev (df:=df) h1;have g2:=h.ev (df:=df) h2;simp only[aop] at ha;split at ha
 ·rename_i m k hd eg ed;split at ha
  ·rename_i hc;obtain ⟨c1,c2,c3⟩:=hc;rw[eg] at g1;rw[ed] at g2;have e1:=g1.rel.v_inv;have e2:=g2.rel.v_inv;simp only[Option.some.injEq,Prod.mk.injEq] at ha;obtain ⟨rfl,rfl⟩:=ha;have hb:(i.bytes:Int) * k<=281474976710656:=by
    have h3:=(yt (n:=k.toNat) (z:=i.size) (b:=i.bytes) (by omega) bV).2.2;have h4:((i.bytes * k.toNat:Nat):Int)=(i.bytes:Int) * k:=by rw[Int.natCast_mul,C3 (by omega)]
    omega
   have hk:k<=6000000000000:=by have:=(yt (n:=k.toNat) (z:=i.size) (b:=i.bytes) (by omega) bV).1;omega
   have hr:=run_make (P:=S.P) w t e i z hu hi hz .i64 .i64 m k c1 c2 hb (by omega);have cG:(k.toNat:Int)=k:=C3 (by omega);have zr:∀ w',RowRel (VR0 S A w') i.size (List.replicate k.toNat (z.cells.toList.map AV.v)) (madeCells z.cells (k.toNat * i.size)):=(by intro w';have:=zim (R:=VR0 S A w') (z:=z) (n:=k.toNat) (by omega) (fun x _=>.v x) (fun x hx=>zbb (aV x hx));rw[dk] at this;unfold madeCells;rw[dk];exact this);have oT:=zr (w.alloc (.cells (madeCells z.cells (k.toNat * i.size)) e));have aM:m.toNat * i.size<=(madeCells z.cells (k.toNat * i.size)).size:=by rw[size_madeCells];exact AP _ (by omega)
   have cS:zac S A (upd σ d (some w.heap.size)) (w.alloc (.cells (madeCells z.cells (k.toNat * i.size)) e)) d (.arr i.size (List.replicate m.toNat (z.cells.toList.map AV.v))):=by
    refine ⟨fun e he => ?_,.inr ⟨w.heap.size,_,e,qG _ _ _,heap_alloc_new w _,by simpa using aM,fun j hj=>oT.one j (by simp at hj;omega),fun a b cc x ha hb=>oT.rel a b cc x ?_ hb⟩⟩
    ·rw[List.mem_replicate] at he;rw[he.2];simp[dk]
    ·rw[Cj] at ha ⊢;split at ha
     ·rw[if_pos (by omega)];exact ha
     ·cases ha
   refine ⟨.value (.slice (some ⟨w.heap.size,0,none⟩) m.toNat k.toNat),_,A,_,by simp only[execOp,ho,e1,e2,Sem.run_bind,hr,Result.andThen_ok,Sem.run_pure],h.newBlk (vs:=madeCells z.cells (k.toNat * i.size)) (el:=e) hd (by simp[Blk.refs]) cS,.inl ⟨_,rfl, ?_,fun s hs => ?_⟩⟩
   ·exact .lsl (qG _ _ _) (by omega) (fun _=>by simp) (heap_alloc_new w _) (by rw[size_madeCells];simp) (by unfold maxLen;omega)
   ·rw[AV.refs,Ai] at hs;subst hs;simp[ASt.setH,upd]
  ·cases ha
 ·cases ha
def op_store (h:SRel S A0 O w0 A σ w st tm) {t:TypeId} {a x:Operand} {a' x':AOpd} {z:Nat} (ho:o.op=.store t a x) (hs:zae S.P t=some z) (h1:qF S a=some a') (h2:qF S x=some x')
  (ha:aop (.store z a' x') d st=some (v,aa)):wK S A0 O w0 w tm df o v aa:=by
 have g1:=h.ev (df:=df) h1;have g2:=h.ev (df:=df) h2;obtain ⟨i,hi,rfl⟩:∃ i,S.P.info? t=some i∧i.size=z:=by simpa[zae] using hs
 simp only[aop] at ha;split at ha
 ·rename_i new bh;obtain ⟨c1,c2,c3,c4⟩:=g2.rel.cells bh;split at ha
  ·rename_i hnl
   have key:∀ b off (old:Array Value) el,Act.eval ⟨tm,df⟩ a=.pointer (some ⟨b,off,none⟩)->w.heap[b]? = some (.cells old el (0,0))->off+i.size<=old.size ->
     ∃ arr:Array Value,(execOp (Act.eval ⟨tm,df⟩) o).run S.P w=.ok .skip (w.setRow b arr)∧arr.size=old.size ∧
      ∀ j,arr.getD j undef=if off<=j∧j < off+i.size then (Act.eval ⟨tm,df⟩ x).cells.getD (j - off) undef else old.getD j undef:=by
    intro b off old el e hb hle;have bk:(Act.eval ⟨tm,df⟩ x).cells.toList.length=i.size:=by simp;omega
    have hr:=run_storeCells_at S.P b off el (Act.eval ⟨tm,df⟩ x).cells.toList 0 old w hb (by omega) c3;simp only[BD] at hr;refine ⟨(old.toList.take off++(Act.eval ⟨tm,df⟩ x).cells.toList++old.toList.drop (off+(Act.eval ⟨tm,df⟩ x).cells.toList.length)).toArray, ?_, ?_,fun j => ?_⟩
    ·have aM:(Act.eval ⟨tm,df⟩ x).cells.size=i.size:=by omega
     simp only[execOp,ho,Instr.storeAt,e,Instr.sureAddr,storeVar,Go.sizeOf,typeInfo,Sem.run_bind,Sem.run_pure,Result.andThen_ok,run_program,hi,aM,ne_eq,not_true_eq_false,if_false,hr]
    ·simp;omega
    ·simp only[Aq,List.getElem?_toArray,AN];by_cases j1:j < off
     ·rw[if_neg (by omega),AJ (by simp;omega),AZ j1];simp
     ·by_cases j2:j < off+i.size
      ·rw[if_pos (by omega),AK (by simp;omega),AJ (by simp;omega)];simp;congr 2;omega
      ·rw[if_neg (by omega),AK (by simp;omega),AK (by simp;omega),BH];simp;congr 2;omega
   split at ha
   ·rename_i s off he;rw[he] at g1;split at ha
    ·rename_i cs hb;split at ha
     ·rename_i hle;simp only[Option.some.injEq,Prod.mk.injEq] at ha;obtain ⟨rfl,rfl⟩:=ha;obtain ⟨b,e,hσ⟩:=g1.rel.pv_inv;obtain ⟨b',old,el,k1,k2,k3,k4⟩:=h.hp _ _ hb;obtain rfl:b'=b:=Option.some.inj (k1.symm.trans hσ);obtain ⟨arr,r1,r2,r3⟩:=key b' off old el e k2 (by omega);have bP:∀ s',zcE σ σ w (w.setRow b' arr) s':=fun s'=>wP w b' old arr el k2 r2 s';have hA:∀ c,A c->(w.setRow b' arr).heap[c]? = w.heap[c]?:=fun c hc=>setRow_other w b' c arr (fun e=>(h.dom s b' hσ).2.2.1 (e ▸ hc));refine ⟨_,_,A,σ,r1,h.setBlk hσ k2 r2 (fun s' ah => ?_) ⟨b',arr,el,hσ,setRow_heap w b' old arr el _ k2,by rw[jW (by omega),r2];exact k3,fun j y hj => ?_⟩ (fun z es _ he=>by rw[hb] at he;cases he),.inr ⟨rfl,rfl⟩⟩
      ·rw[Blk.refs,zm] at ah;obtain ⟨y,hy,dh⟩:=ah;obtain ⟨j,hj⟩:=AA.1 hy;rw[yb (by omega)] at hj;split at hj
       ·exact g2.dang s' ((c4 s').1 (zm.2 ⟨y,Ad hj,dh⟩))
       ·exact h.dangV s cs hb s' (zm.2 ⟨y,Ad hj,dh⟩)
      ·rw[yb (by omega)] at hj;rw[r3];split at hj
       ·rename_i hc;rw[if_pos (by omega)];exact (c2 _ _ hj).mono (fun _ h=>h) hA fun s' _=>bP s'
       ·rename_i hc;rw[if_neg (by omega)];exact (k4 _ _ hj).mono (fun _ h=>h) hA fun s' _=>bP s'
     ·cases ha
    ·cases ha
   ·rename_i s z0 k off he;rw[he] at g1;split at ha
    ·rename_i z' es hb;split at ha
     ·rename_i cs aq;split at ha
      ·rename_i hle;obtain ⟨rfl,hle,hnr⟩:=hle;simp only[Option.some.injEq,Prod.mk.injEq] at ha;obtain ⟨rfl,rfl⟩:=ha;obtain ⟨b,e,hσ⟩:=g1.rel.pe_inv;obtain ⟨k0,⟨k1,rfl⟩ | ⟨b',old,el,k1,k2,k3,k5,k4⟩⟩:=h.hp _ _ hb
       ·simp at aq
       ·obtain rfl:b'=b:=Option.some.inj (k1.symm.trans hσ);have hcz:cs.length=z0:=k0 _ (Ad aq);have hk:k < es.length:=(Ac.1 aq).1;have cp:(k+1) * z0<=es.length * z0:=AP _ hk;rw[Bc] at cp;obtain ⟨arr,r1,r2,r3⟩:=key b' (k * z0+off) old el e k2 (by omega);have hA:∀ c,A c->(w.setRow b' arr).heap[c]? = w.heap[c]?:=fun c hc=>setRow_other w b' c arr (fun e=>(h.dom s b' hσ).2.2.1 (e ▸ hc));have nG:∀ (j:Nat) (y:AV),new[j]? = some y->y.refs=[]:=(by intro j y hj;exact AB.2 fun s' ah=>by have:=zm.2 ⟨y,Ad hj,ah⟩;rw[hnr] at this;cases this);refine ⟨_,_,A,σ,r1,h.setBlk hσ k2 r2 (by simp[Blk.refs]) ⟨fun e' gP => ?_,.inr ⟨b',arr,el,hσ,setRow_heap w b' old arr el _ k2,by rw[r2];simpa using k3,fun j hj => ?_,fun ii ee c y aO hc => ?_⟩⟩ (fun z aX _ he=>by rw[hb] at he;cases he;exact ⟨_,rfl,by simp⟩),.inr ⟨rfl,rfl⟩⟩
        ·rcases Cg gP with gP | rfl
         ·exact k0 _ gP
         ·rw[jW (by omega)];exact hcz
        ·rw[r3];by_cases hc:k * z0+off<=j∧j < k * z0+off+i.size
         ·rw[if_pos hc];apply c3;have:j - (k * z0+off) < (Act.eval ⟨tm,df⟩ x).cells.size:=by omega
          rw[CZ];simp[Array.getD,this]
         ·rw[if_neg hc];exact k5 j (by simpa using hj)
        ·rw[r3];by_cases dJ:k=ii
         ·subst dJ;rw[Cm hk] at aO;cases aO;rw[yb (by omega)] at hc;split at hc
          ·rename_i lx;rw[if_pos (by omega),show k * z0+c - (k * z0+off)=c - off by omega];exact ((c2 _ _ hc).to0 (nG _ _ hc)).mono (fun _ h=>h) hA
          ·rename_i lx;rw[if_neg (by omega)];exact (k4 _ _ _ _ aq hc).mono (fun _ h=>h) hA
         ·have ak:=dJ;rw[Cw dJ] at aO;have n5:=k0 _ (Ad aO);have bk:=(Ac.1 hc).1;rw[if_neg (fun hh=>ak (zhI (i:=ii) (j:=k) (c:=c) (z:=z0) (by omega) (by omega) (by omega)).symm)];exact (k4 _ _ _ _ aO hc).mono (fun _ h=>h) hA
      ·cases ha
     ·cases ha
    ·cases ha
   ·cases ha
  ·cases ha
 ·cases ha
end
end
section
open Go Go.RowKit
section
variable {S:Seat} {A0:Nat->Prop} {O:Hnd} {w0:World} {A:Nat->Prop} {σ:Nat->Option Nat} {w:World} {st aa:ASt} {tm:Array Value} {df:List Deferred} {o:Oper} {v:AV} {d:Nat}
def Src (w:World) (y:Value) (m:Nat) (news:List Value):Prop :=
 ∃ b c,y=.slice b m c∧((b=none∧m=0∧news=[])∨∃ ad,b=some ad∧∀ j u,news[j]? = some u->w.cell? (ad.add j)=some u)
def ziA {P:Program} {size m:Nat} {y:Value} {news:List Value} (h:Src w y m news) (hl:news.length=m * size) (w':World) (hw:w'.heap=w.heap) :
  (Builtin.firstCells size m y).run P w'=.ok news.toArray w'∧∃ b c,y=.slice b m c:=by
 obtain ⟨b,c,rfl,⟨rfl,rfl,rfl⟩ | ⟨ad,rfl,h2⟩⟩:=h
 ·exact ⟨by simp[Builtin.firstCells],_,_,rfl⟩
 ·exact ⟨run_firstCells_some (P:=P) w' size m ad m c news hl (fun j u hj=>by have:=h2 j u hj;simpa[World.cell?,hw] using this),_,_,rfl⟩
def zhf {P:Program} (t ty e:TypeId) (i:TypeInfo) (ht:P.underlying t=some (.slice e)) (hi:P.info? e=some i)
  (g n cap:Nat) (cur:Array Value) (el:TypeId) (hg:w.heap[g]? = some (.cells cur el (0,0))) {y:Value} {m:Nat} {news:List Value} (hy:Src w y m news) (hl:news.length=m * i.size) (h1:∀ u∈news,u.oneCell'=true)
  (aP:n+m<=cap) (bQ:n * i.size+news.length<=cur.size) :
  (Builtin.append_ #[t,t] ty #[.slice (some ⟨g,0,none⟩) n cap,y]).run P w =
   .ok (.slice (some ⟨g,0,none⟩) (n+m) cap) (w.setRow g (cur.toList.take (n * i.size)++news++cur.toList.drop (n * i.size+news.length)).toArray):=by
 obtain ⟨hf,b,c,rfl⟩:=ziA (P:=P) hy hl w rfl;have bZ:=run_storeCells_at P g (n * i.size) el news 0 cur w hg (by simpa using bQ) h1;simp only[BD] at bZ;simp[Builtin.append_,run_underlying ht,Go.sizeOf,typeInfo,hi,Builtin.lenOf,aP,hf,Addr.add_lit,bZ]
def zcN {P:Program} (t ty e:TypeId) (i:TypeInfo) (ht:P.underlying t=some (.slice e)) (hi:P.info? e=some i) {y:Value} (hy:Src w y 0 []) :
  (Builtin.append_ #[t,t] ty #[.slice none 0 0,y]).run P w=.ok (.slice none 0 0) w:=by
 obtain ⟨hf,b,c,rfl⟩:=ziA (P:=P) (size:=i.size) hy (by simp) w rfl;simp[Builtin.append_,run_underlying ht,Go.sizeOf,typeInfo,hi,Builtin.lenOf,hf]
def zcO {P:Program} (t ty e:TypeId) (i:TypeInfo) (z:Value) (ht:P.underlying t=some (.slice e)) (hi:P.info? e=some i) (hz:i.zero=some z)
  (a:Option Addr) (n cap:Nat) (olds:List Value) (fx:olds.length=n * i.size) (holds:(a=none∧olds=[])∨∃ ad,a=some ad∧∀ j v,olds[j]? = some v->w.cell? (ad.add j)=some v)
  {y:Value} {m:Nat} {news:List Value} (hy:Src w y m news) (hl:news.length=m * i.size) (hg:cap < n+m) (oK:((n+m:Nat):Int)<=9223372036854775807) (bQ:Builtin.nextslicecap (n+m) cap * i.bytes<=281474976710656) :
  (Builtin.append_ #[t,t] ty #[.slice a n cap,y]).run P w =
   .ok (.slice (some ⟨w.heap.size,0,none⟩) (n+m) (grownCap w (n+m) cap e)) (w.drew.alloc (.cells (olds.toArray++news.toArray++Builtin.zeroCells z.cells (grownCap w (n+m) cap e - (n+m))) e)):=by
 have hn:¬ (n+m<=cap):=by omega
 have oJ:¬ (9223372036854775807 < ((n:Int)+(m:Int))):=by omega
 have oM:¬ (281474976710656 < Builtin.nextslicecap (n+m) cap * i.bytes):=by omega
 obtain ⟨hf,b,c,rfl⟩:=ziA (P:=P) hy hl w.drew rfl;have hfo:(Builtin.firstCells i.size n (.slice a n cap)).run P w.drew=.ok olds.toArray w.drew:=by
  rcases holds with ⟨rfl,rfl⟩ | ⟨ad,rfl,h2⟩
  ·simp[Builtin.firstCells]
  ·exact run_firstCells_some (P:=P) w.drew i.size n ad n cap olds fx (by simpa using h2)
 simp[Builtin.append_,run_underlying ht,Go.sizeOf,typeInfo,zeroValue,hi,hz,Builtin.lenOf,hn,oJ,oM,Question.forced,hf,hfo,newRow,grownCap];congr 2;apply Array.ext';simp[AN]
def zi1 (h:SRel S A0 O w0 A σ w st tm) {z:Nat} {y:AV} {rv:Value} {ys:List (List AV)} (hv:VR S A σ w y rv) (he:zbl st.hp z y=some ys) :
  ∃ news,Src w rv ys.length news∧news.length=ys.length * z∧(∀ e∈ys,e.length=z)∧(∀ u∈news,u.oneCell'=true)∧∀ (i:Nat) (e:List AV) (c:Nat) (x:AV),ys[i]? = some e->e[c]? = some x->VR0 S A w x (news.getD (i * z+c) undef):=by
 have mk:∀ (b off cap:Nat) (u:Nat->Value),rv=.slice (some ⟨b,off,none⟩) ys.length cap->(∀ e∈ys,e.length=z)->(∀ j,j < ys.length * z->w.cell? ⟨b,off+j,none⟩=some (u j))->(∀ j,j < ys.length * z->(u j).oneCell'=true) ->
   (∀ (i:Nat) (e:List AV) (c:Nat) (x:AV),ys[i]? = some e->e[c]? = some x->VR0 S A w x (u (i * z+c))) ->
   ∃ news,Src w rv ys.length news∧news.length=ys.length * z∧(∀ e∈ys,e.length=z)∧(∀ u∈news,u.oneCell'=true)∧∀ (i:Nat) (e:List AV) (c:Nat) (x:AV),ys[i]? = some e->e[c]? = some x->VR0 S A w x (news.getD (i * z+c) undef):=by
  intro b off cap u hr h0 h1 h2 h3;refine ⟨(List.range (ys.length * z)).map u,⟨_,_,hr,.inr ⟨_,rfl,fun j v hj => ?_⟩⟩,by simp,h0,fun v hv => ?_,fun i e c x hi hc => ?_⟩
  ·simp only[Au,Ag] at hj;obtain ⟨k,hk,rfl⟩:=hj;obtain ⟨ld,dv⟩:=Ac.1 hk;simp at ld dv;subst dv;rw[Addr.add_lit];exact h1 j ld
  ·rw[Aj] at hv;obtain ⟨k,hk,rfl⟩:=hv;exact h2 k (by simpa using hk)
  ·have ae:i * z+c < ys.length * z:=zhK (Ac.1 hi).1 (by have:=(Ac.1 hc).1;have:=h0 e (Ad hi);omega);have:((List.range (ys.length * z)).map u).getD (i * z+c) undef=u (i * z+c):=by simp[List.getD,ae]
   rw[this];exact h3 i e c x hi hc
 unfold zbl at he;split at he
 ·cases he;rw[hv.v_inv];exact ⟨[],⟨_,_,rfl,.inl ⟨rfl,rfl,rfl⟩⟩,by simp,by simp,by simp,by simp⟩
 ·cases he;rw[hv.v_inv];exact ⟨[],⟨_,_,rfl,.inr ⟨_,rfl,by simp⟩⟩,by simp,by simp,by simp,by simp⟩
 ·rename_i z' es;split at he
  ·rename_i hz;subst hz;cases he;rcases hv.sl_inv with ⟨rfl,hr⟩ | ⟨b,o',cap,u,hr,k1,k2,k3,k4,k5,k6⟩ | ⟨rfl,a,cap,hr⟩
   ·rw[hr];exact ⟨[],⟨_,_,rfl,.inl ⟨rfl,rfl,rfl⟩⟩,by simp,by simp,by simp,by simp⟩
   ·exact mk b o' cap u hr k3 k4 k5 k6
   ·rw[hr];exact ⟨[],⟨_,_,rfl,.inr ⟨_,rfl,by simp⟩⟩,by simp,by simp,by simp,by simp⟩
  ·cases he
 ·rename_i s z' off len;split at he
  ·rename_i fT es hb;split at he
   ·rename_i hc;cases he;obtain ⟨bt,bF,hle⟩:=hc;subst bt;subst bF;have hlen:((es.drop off).take len).length=len:=by simp;omega
    obtain ⟨k0,kr⟩:=h.hp _ _ hb;have h0:∀ e∈(es.drop off).take len,e.length=fT:=fun e he=>k0 e (BP (BJ he));rcases hv.lsl_inv with ⟨rfl,rfl,_,hr⟩ | ⟨b,o',cap,cs,el,hr,k1,k2,k3,k4,k5,k6⟩
    ·rw[hr];exact ⟨[],⟨_,_,rfl,.inl ⟨rfl,by simp,rfl⟩⟩,by simp,by simp,by simp,by simp⟩
    ·rcases kr with ⟨j1,_⟩ | ⟨b',vs,bW,j1,j2,j3,j5,j4⟩
     ·rw[j1] at k1;cases k1
     ·obtain rfl:b'=b:=Option.some.inj (j1.symm.trans k1);by_cases fy:len=0
      ·subst fy;exact mk b' o' cap (fun _=>undef) (by rw[hlen];exact hr) h0 (by simp) (by simp) (by simp)
      ·have ho:=k3 (.inl (by omega));subst ho;have aM:len * fT+off * fT<=es.length * fT:=by rw[← Bc];exact AP _ (by omega)
       refine mk b' (off * fT) cap (fun j=>vs.getD (off * fT+j) undef) (by rw[hlen];exact hr) h0 (fun j hj => ?_) (fun j hj => ?_) (fun i e c x hi hc => ?_)
       ·rw[hlen] at hj;have:off * fT+j < vs.size:=by omega
        simp[World.cell?,j2,this,Array.getD]
       ·rw[hlen] at hj;exact j5 _ (by omega)
       ·have ae:i < len:=by have:=(Ac.1 hi).1;omega
        rw[AZ ae,BH] at hi;have:=j4 _ _ _ _ hi hc
        rwa [Bc,BB] at this
   ·cases he
  ·cases he
 ·cases he
def zcy {R:AV->Value->Prop} {z:Nat} {es ys:List (List AV)} {olds news rest:List Value} (h1:∀ e∈es,e.length=z) (h2:∀ e∈ys,e.length=z) (gN:olds.length=es.length * z) (bU:news.length=ys.length * z)
  (r1:∀ (i:Nat) (e:List AV) (c:Nat) (x:AV),es[i]? = some e->e[c]? = some x->R x (olds.getD (i * z+c) undef)) (r2:∀ (i:Nat) (e:List AV) (c:Nat) (x:AV),ys[i]? = some e->e[c]? = some x->R x (news.getD (i * z+c) undef))
  (i:Nat) (e:List AV) (c:Nat) (x:AV) (hi:(es++ys)[i]? = some e) (hc:e[c]? = some x):R x ((olds++news++rest).getD (i * z+c) undef):=by
 have bk:=(Ac.1 hc).1;by_cases ae:i < es.length
 ·rw[AJ ae] at hi;have n5:=h1 e (Ad hi);have hb:i * z+c < olds.length:=by rw[gN];exact zhK ae (by omega)
  have:=r1 i e c x hi hc;simpa[List.getD,AN,AJ hb] using this
 ·rw[AK (by omega)] at hi;have n5:=h2 e (Ad hi);have gk:=(Ac.1 hi).1;have hb:(i - es.length) * z+c < news.length:=by rw[bU];exact zhK gk (by omega)
  have heq:i * z+c=olds.length+((i - es.length) * z+c):=(by rw[gN,← BB,← Bc];congr 2;omega);have:=r2 _ e c x hi hc;rw[heq,AN,Aw,AK (by omega),AJ (by omega)];simpa[List.getD] using this
def qn (l:List Value) (j:Nat):l.toArray.getD j undef=l.getD j undef:=by simp[Aq,List.getD]
def zcz {es_len ys_len z:Nat} {olds news rest:List Value} (gN:olds.length=es_len * z) (bU:news.length=ys_len * z) (h1:∀ u∈olds,u.oneCell'=true) (h2:∀ u∈news,u.oneCell'=true) (j:Nat) (hj:j < (es_len+ys_len) * z) :
  ((olds++news++rest).getD j undef).oneCell'=true:=by
 have hb:j < (olds++news).length:=by simp[gN,bU,← Bc];exact hj
 have:(olds++news++rest).getD j undef=(olds++news)[j]:=by rw[Aw,AJ hb,Aa hb];rfl
 rw[this];rcases Ah.1 (Ay hb) with h | h
 ·exact h1 _ h
 ·exact h2 _ h
def SRel.dropS (h:SRel S A0 O w0 A σ w st tm) {s:Nat} (eE:bK s=false):SRel S A0 O w0 A (fun k=>if k=s then none else σ k) w (st.drop s) tm:=by
 show SRel S A0 O w0 A (fun k=>if k=s then none else σ k) w ((st.scrub s).setH s none) tm;have hq:=h.scrub s;have nr:∀ k,s ∉ ((st.scrub s).fr k).refs:=fun k=>zfj s (st.fr k);have ks:∀ s',s'≠s->zcE σ (fun k=>if k=s then none else σ k) w w s':=fun s' ak=>⟨by simp[ak],fun b cs el _ hb=>⟨cs,hb,rfl⟩⟩;have nrB:∀ s' cs,(st.scrub s).hp s'=some (.var cs)->s ∉ AV.refsL cs:=by
  intro s' cs aq hm;simp only[ASt.scrub,Ag] at aq;obtain ⟨b0,_,he⟩:=aq;cases b0 with
  | var gT =>simp only[fS,Blk.var.injEq] at he;subst he;rw[zm] at hm;obtain ⟨xx,hx,hm⟩:=hm;rw[Aj] at hx;obtain ⟨yy,_,rfl⟩:=hx;exact zfj s yy hm
  | arr=>simp[fS] at he
 refine ⟨fun k=>(hq.fr k).mono (fun _ h=>h) (fun _ _=>rfl) fun s' ah=>ks s' fun e=>nr k (e ▸ ah),fun s' blk aA => ?_,fun k s' ah => ?_,fun s' cs aq eH bu => ?_,fun s' b ah => ?_,fun a1 a2 b b1 b2 => ?_,hq.Alt,hq.Asub,hq.keep,hq.kp.of fun s' ah hn => ?_,hq.Olt⟩
 ·simp only[ASt.setH,upd] at aA;split at aA
  ·cases aA
  ·rename_i ak;refine (hq.hp s' blk aA).mono (fun _ h=>h) (fun _ _=>rfl) (by simp[ak]) (fun _ _=>rfl) fun eH bu=>ks eH fun e => ?_;subst e;cases blk with
   | var cs=>exact nrB s' cs aA (by rw[Blk.refs] at bu;exact bu)
   | arr=>simp[Blk.refs] at bu
 ·simp only[ASt.setH,upd];split
  ·rename_i e;subst e;exact absurd ah (nr k)
  ·exact hq.dang k s' ah
 ·simp only[ASt.setH,upd] at aq ⊢;split at aq
  ·cases aq
  ·split
   ·rename_i e;subst e;exact absurd bu (nrB s' cs aq)
   ·exact hq.dangV s' cs aq eH bu
 ·split at ah
  ·cases ah
  ·rename_i ak;obtain ⟨d1,d2⟩:=hq.dom s' b ah;exact ⟨by simp[ASt.setH,upd,ak];exact d1,d2⟩
 ·split at b1
  ·cases b1
  ·split at b2
   ·cases b2
   ·exact hq.inj a1 a2 b b1 b2
 ·have ak:s'≠s:=fun e=>by rw[e,eE] at ah;cases ah
  exact ⟨ks s' ak,fun z es he=>⟨es,by simp only[ASt.setH,upd,if_neg ak];exact he,rfl⟩⟩
def op_app (h:SRel S A0 O w0 A σ w st tm) {t e:TypeId} {i:TypeInfo} {z:Value} {x y:Operand} {x' y':AOpd} (ho:o.op=.call { callee:=.builtin .append,args:=#[x,y],argTypes:=#[t,t] }) (hu:S.P.underlying t=some (.slice e)) (hi:S.P.info? e=some i) (hz:i.zero=some z)
  (dk:z.cells.size=i.size) (bV:i.bytes<=iW i.size) (h1:qF S x=some x') (h2:qF S y=some y') (ha:aop (.app i.size x' y') d st=some (v,aa)):wK S A0 O w0 w tm df o v aa:=by
 have g1:=h.ev (df:=df) h1;have g2:=h.ev (df:=df) h2;have aG:(execOp (Act.eval ⟨tm,df⟩) o).run S.P w=((Builtin.append_ #[t,t] o.type #[Act.eval ⟨tm,df⟩ x,Act.eval ⟨tm,df⟩ y]).run S.P w).andThen fun a w'=>.ok (.value a) w':=(by simp[execOp,ho,resolve,invoke,builtin]);have fits:∀ n cap,n<=zfS i.size->cap < n->Builtin.nextslicecap n cap * i.bytes<=281474976710656:=fun n cap hn hc=>growslice_fits_wide hc (yt hn bV).2.1;simp only[aop] at ha;split at ha
 ·rename_i ys dh;obtain ⟨news,s1,s2,s3,s4,s5⟩:=zi1 h g2.rel dh;split at ha
  ·rename_i he;rw[he] at g1;have e1:=g1.rel.v_inv;rw[e1] at aG;split at ha
   ·rename_i aP;split at ha
    ·rename_i hd;simp only[Option.some.injEq,Prod.mk.injEq] at ha;obtain ⟨rfl,rfl⟩:=ha;by_cases hm:ys.length=0
     ·have kI:ys=[]:=BQ hm;subst kI;obtain rfl:news=[]:=BQ (by simpa using s2);rw[zcN t o.type e i hu hi s1] at aG;have hσd:σ d=none:=by
       cases hq:σ d with
       | none=>rfl
       | some b=>exact absurd hd (h.dom d b hq).1
      refine ⟨_,w,A,σ,aG,⟨h.fr,fun s blk hb => ?_,fun k s hs => ?_,fun s cs hs s' ah => ?_,fun s b hs => ?_,h.inj,h.Alt,h.Asub,h.keep,h.kp.same (fun _ _=>⟨rfl,fun _ cs _ _ hb=>⟨cs,hb,rfl⟩⟩) (fun s z es he _=>by
       have ak:s≠d:=fun e=>by rw[e,hd] at he;cases he
       simp only[ASt.setH,upd,if_neg ak];exact he),h.Olt⟩,.inl ⟨_,rfl,.lslnil hσd,fun s hs => ?_⟩⟩
      ·simp only[ASt.setH,upd] at hb;split at hb
       ·rename_i e;subst e;cases hb;exact ⟨by simp,.inl ⟨hσd,rfl⟩⟩
       ·exact h.hp s blk hb
      ·simp only[ASt.setH,upd];split
       ·simp
       ·exact h.dang k s hs
      ·simp only[ASt.setH,upd] at hs ⊢;split
       ·simp
       ·split at hs
        ·cases hs
        ·exact h.dangV s cs hs s' ah
      ·obtain ⟨k1,k2⟩:=h.dom s b hs;refine ⟨?_,k2⟩;simp only[ASt.setH,upd];split
       ·simp
       ·exact k1
      ·rw[AV.refs,Ai] at hs;subst hs;simp[ASt.setH,upd]
     ·have hr:=zcO (P:=S.P) t o.type e i z hu hi hz none 0 0 [] (by simp) (.inl ⟨rfl,rfl⟩) s1 s2 (by omega) (by have:=(yt aP bV).1;omega) (by rw[Ba];exact fits _ _ aP (by omega));rw[hr] at aG;simp only[Ba] at aG;have hdr:=h.drew;have cH:=grownCap_ge w ys.length 0 e;have fF:=grownCap_le_maxLen w ys.length 0 e (by have:=(yt aP bV).1;unfold maxLen;omega);refine ⟨_,_,A,_,aG,hdr.newBlk (el:=e) hd (by simp[Blk.refs]) ⟨s3,.inr ⟨_,_,e,qG _ _ _,heap_alloc_new w.drew _, ?_,fun j hj => ?_,fun ii ee c xx aO hc => ?_⟩⟩,.inl ⟨_,rfl, ?_,fun s hs => ?_⟩⟩
      ·simp only[Array.size_append,C7,Bu,size_zeroCells,dk,s2];omega
      ·have:=zcz (es_len:=0) (ys_len:=ys.length) (z:=i.size) (olds:=[]) (news:=news) (rest:=(Builtin.zeroCells z.cells (grownCap w ys.length 0 e - ys.length)).toList) (by simp) s2 (by simp) s4 j (by simpa using hj);have e2:([].toArray++news.toArray++Builtin.zeroCells z.cells (grownCap w ys.length 0 e - ys.length))=([]++news++(Builtin.zeroCells z.cells (grownCap w ys.length 0 e - ys.length)).toList).toArray:=by apply Array.ext';simp
       rw[e2,qn];exact this
      ·have:=zcy (R:=VR0 S A w) (es:=[]) (olds:=[]) (rest:=(Builtin.zeroCells z.cells (grownCap w ys.length 0 e - ys.length)).toList) (by simp) s3 (by simp) s2 (by simp) s5 ii ee c xx (by simpa using aO) hc;have e2:([].toArray++news.toArray++Builtin.zeroCells z.cells (grownCap w ys.length 0 e - ys.length))=([]++news++(Builtin.zeroCells z.cells (grownCap w ys.length 0 e - ys.length)).toList).toArray:=by apply Array.ext';simp
       rw[e2,qn];exact (VR0.heap (w:=w) (w':=w.drew) rfl this).mono (fun _ h=>h) fun b hb=>heap_alloc_old w.drew _ b (h.Alt b hb)
      ·refine .lsl (qG _ _ _) cH (fun _=>by simp) (heap_alloc_new w.drew _) ?_ fF;simp only[Array.size_append,C7,Bu,size_zeroCells,dk,s2,Ba,← Bc];exact AP _ (by omega)
      ·rw[AV.refs,Ai] at hs;subst hs;simp[ASt.setH,upd]
    ·cases ha
   ·cases ha
  ·rename_i s z' n he;rw[he] at g1;split at ha
   ·rename_i fT es hb;split at ha
    ·rename_i hc;obtain ⟨cm,rfl,rfl,rfl,aP⟩:=hc;simp only[Option.some.injEq,Prod.mk.injEq] at ha;obtain ⟨rfl,rfl⟩:=ha;obtain ⟨k0,kr⟩:=h.hp _ _ hb;have hsc:=h.scrub s;have lB:(st.scrub s).hp s=some (.arr i.size es):=by simp[ASt.scrub,hb,fS]
     have cG:∀ e∈es++ys,e.length=i.size:=fun e he=>(Ah.1 he).elim (k0 e) (s3 e);have hlen:(es++ys).length=es.length+ys.length:=AQ
     -- a row in new memory,under the old name
     have grow:∀ (a:Option Addr) (cap:Nat) (olds:List Value),Act.eval ⟨tm,df⟩ x=.slice a es.length cap->olds.length=es.length * i.size->((a=none∧olds=[])∨∃ ad,a=some ad∧∀ j v,olds[j]? = some v->w.cell? (ad.add j)=some v) ->
       (∀ u∈olds,u.oneCell'=true)->(∀ (ii:Nat) (e:List AV) (c:Nat) (x:AV),es[ii]? = some e->e[c]? = some x->VR0 S A w x (olds.getD (ii * i.size+c) undef))->cap < es.length+ys.length ->
       wK S A0 O w0 w tm df o (.lsl s i.size 0 (es.length+ys.length)) ((st.scrub s).setH s (some (.arr i.size (es++ys)))):=by
      intro a cap olds e1 l1 l2 l3 l4 l5;have hr:=zcO (P:=S.P) t o.type e i z hu hi hz a es.length cap olds l1 l2 s1 s2 l5 (by have:=(yt aP bV).1;omega) (fits _ _ aP l5);rw[e1,hr] at aG;simp only[Result.andThen_ok] at aG;have cH:=grownCap_ge w (es.length+ys.length) cap e;have fF:=grownCap_le_maxLen w (es.length+ys.length) cap e (by have:=(yt aP bV).1;unfold maxLen;omega);generalize hzc:Builtin.zeroCells z.cells (grownCap w (es.length+ys.length) cap e - (es.length+ys.length))=zc at aG;have mZ:zc.size=(grownCap w (es.length+ys.length) cap e - (es.length+ys.length)) * i.size:=by rw[← hzc,size_zeroCells,dk]
      have e2:(olds.toArray++news.toArray++zc)=(olds++news++zc.toList).toArray:=by apply Array.ext';simp
      rw[e2] at aG
      -- the state without the row
      have iC:SRel S A0 O w0 A (fun k=>if k=s then none else σ k) w.drew ((st.scrub s).setH s none) tm:=h.drew.dropS cm;have heq:((st.scrub s).setH s none).setH s (some (.arr i.size (es++ys)))=(st.scrub s).setH s (some (.arr i.size (es++ys))):=by
       simp only[ASt.setH];congr 1;funext k;simp only[upd]
       split<;>rfl
      rw[← heq];refine ⟨_,_,A,_,aG,iC.newBlk (el:=e) (by simp[ASt.setH,upd]) (by simp[Blk.refs]) ⟨cG,.inr ⟨_,_,e,qG _ _ _,heap_alloc_new w.drew _, ?_,fun j hj => ?_,fun ii ee c xx aO hc => ?_⟩⟩,.inl ⟨_,rfl, ?_,fun s' ah => ?_⟩⟩
      ·simp[l1,s2,Bc]
      ·rw[qn];exact zcz l1 s2 l3 s4 j (by rw[hlen] at hj;exact hj)
      ·rw[qn];exact (VR0.heap (w:=w) (w':=w.drew) rfl (zcy k0 s3 l1 s2 l4 s5 ii ee c xx aO hc)).mono (fun _ h=>h) fun b hb=>heap_alloc_old w.drew _ b (h.Alt b hb)
      ·refine .lsl (qG _ _ _) cH (fun _=>by simp) (heap_alloc_new w.drew _) ?_ fF;simp only[C7,AQ,C4,l1,s2,mZ,Ba,← Bc];exact AP _ (by omega)
      ·rw[AV.refs,Ai] at ah;subst ah;simp[ASt.setH,upd]
     rcases g1.rel.lsl_inv with ⟨_,nI,kσ,e1⟩ | ⟨b,o',cap,cs,el,e1,j1,j2,j3,j4,j5,j6⟩
     ·have dz:es=[]:=BQ nI;subst dz;by_cases hm:ys.length=0
      ·have kI:ys=[]:=BQ hm;subst kI;obtain rfl:news=[]:=BQ (by simpa using s2);rw[e1,zcN t o.type e i hu hi s1] at aG;have heq:(st.scrub s).setH s (some (.arr i.size ([]++[])))=st.scrub s:=by
        simp only[ASt.setH];cases hq:st.scrub s with
        | mk f p =>
         simp only;congr 1;funext k;simp only[upd];split
         ·rename_i e;subst e;rw[hq] at lB;exact lB.symm
         ·rfl
       rw[heq];exact ⟨_,w,A,σ,aG,hsc,.inl ⟨_,rfl,.lslnil kσ,fun s' ah=>by rw[AV.refs,Ai] at ah;subst ah;rw[lB];simp⟩⟩
      ·exact grow none 0 [] e1 (by simp) (.inl ⟨rfl,rfl⟩) (by simp) (by simp) (by simp;omega)
     ·rcases kr with ⟨q1,_⟩ | ⟨b',vs,bW,q1,q2,q3,q5,q4⟩
      ·rw[q1] at j1;cases j1
      ·obtain rfl:b'=b:=Option.some.inj (q1.symm.trans j1);rw[q2] at j4;simp only[Option.some.injEq,Obj.cells.injEq] at j4;obtain ⟨e3,e4,_⟩:=j4;subst e3;subst e4;have gK:=j3 (.inr rfl);simp only[Nat.zero_mul] at gK;subst gK;simp only[Ba] at j5;have iA:(vs.toList.take (es.length * i.size)).length=es.length * i.size:=by simp;omega
       have bj:∀ j,j < es.length * i.size->(vs.toList.take (es.length * i.size)).getD j undef=vs.getD j undef:=(by intro j hj;simp[List.getD,Aq,AZ hj]);have cQ:∀ u∈vs.toList.take (es.length * i.size),u.oneCell'=true:=(by intro u hu;obtain ⟨j,hj⟩:=AA.1 hu;have cM:=(Ac.1 hj).1;rw[iA] at cM;have e3:=bj j cM;simp only[List.getD,hj,Be] at e3;rw[e3];exact q5 j cM);have hrel:∀ (ii:Nat) (e:List AV) (c:Nat) (x:AV),es[ii]? = some e->e[c]? = some x->VR0 S A w x ((vs.toList.take (es.length * i.size)).getD (ii * i.size+c) undef):=(by intro ii ee c xx aO hc;rw[bj _ (zhK (Ac.1 aO).1 (by have:=(Ac.1 hc).1;have:=k0 ee (Ad aO);omega))];exact q4 _ _ _ _ aO hc);by_cases hr:es.length+ys.length<=cap
       ·have bQ:es.length * i.size+news.length<=vs.size:=(by rw[s2,← Bc];exact AL (AP _ hr) j5);have hrr:=zhf (P:=S.P) t o.type e i hu hi b' es.length cap vs bW q2 s1 s2 s4 hr bQ;rw[e1,hrr] at aG;simp only[Result.andThen_ok] at aG;generalize bh:(vs.toList.take (es.length * i.size)++news++vs.toList.drop (es.length * i.size+news.length))=nw at aG;have aM:nw.toArray.size=vs.size:=by rw[← bh];simp;omega
        have hA:∀ c,A c->(w.setRow b' nw.toArray).heap[c]? = w.heap[c]?:=fun c hc=>setRow_other w b' c _ (fun e=>(h.dom s b' q1).2.2.1 (e ▸ hc));refine ⟨_,_,A,σ,aG,hsc.setBlk q1 q2 aM (by simp[Blk.refs]) ⟨cG,.inr ⟨b',_,bW,q1,setRow_heap w b' vs _ bW _ q2, ?_,fun j hj => ?_,fun ii ee c xx aO hc => ?_⟩⟩ (fun z es _ _=>by simp_all),.inl ⟨_,rfl, ?_,fun s' ah => ?_⟩⟩
        ·rw[aM,hlen];exact AL (AP _ hr) j5
        ·rw[qn,← bh];exact zcz iA s2 cQ s4 j (by rw[hlen] at hj;exact hj)
        ·rw[qn];have hx:=(zcy (rest:=vs.toList.drop (es.length * i.size+news.length)) k0 s3 iA s2 hrel s5 ii ee c xx aO hc).mono (w':=w.setRow b' nw.toArray) (fun _ h=>h) hA;rw[bh] at hx;exact hx
        ·exact .lsl q1 hr (fun _=>by simp) (setRow_heap w b' vs _ bW _ q2) (by rw[aM];simpa using j5) j6
        ·rw[AV.refs,Ai] at ah;subst ah;simp[ASt.setH,upd]
       ·exact grow _ cap _ e1 iA (.inr ⟨_,rfl,fun j v hj=>by
         have cM:=(Ac.1 hj).1;rw[iA] at cM;rw[AZ cM] at hj;rw[Addr.add_lit,Ba,cell_of_row w b' j vs bW _ q2];simpa using hj⟩) cQ hrel (by omega)
    ·cases ha
   ·cases ha
  ·cases ha
 ·cases ha
end
end
section
open Go Go.RowKit
section
variable {S:Seat} {A0:Nat->Prop} {O:Hnd} {w0:World} {A:Nat->Prop} {σ:Nat->Option Nat} {w:World} {st aa:ASt} {tm:Array Value} {df:List Deferred} {o:Oper} {v:AV} {d:Nat}
def SRel.grow (h:SRel S A0 O w0 A σ w st tm) {w':World} {A':Nat->Prop} (hk:KeepO (fun _=>False) w w') (h1:∀ b,A b->A' b) (h2:∀ b,A' b->A b∨w.heap.size<=b) (h3:∀ b,A' b->b < w'.heap.size):SRel S A0 O w0 A' σ w' st tm:=by
 have hA:∀ b,A b->w'.heap[b]? = w.heap[b]?:=fun b hb=>hk.block b (h.Alt b hb) (fun e=>e);have hs:∀ s,zcE σ σ w w' s:=fun s=>⟨rfl,fun b cs el hb hc=>⟨cs,by rw[hk.block b (h.dom s b hb).2.1 (fun e=>e)];exact hc,rfl⟩⟩;refine ⟨fun k=>(h.fr k).mono h1 hA fun s _=>hs s,fun s blk hb=>(h.hp s blk hb).mono h1 hA rfl (fun b hb=>hk.block b (h.dom s b hb).2.1 (fun e=>e)) fun s' _=>hs s',h.dang,h.dangV,fun s b hb => ?_,h.inj,h3,fun b hb => ?_, ?_, ?_,h.Olt⟩
 ·obtain ⟨k1,k2,k3,k4⟩:=h.dom s b hb;exact ⟨k1,AU k2 hk.size,fun aA=>(h2 b aA).elim k3 (fun e=>by omega),k4⟩
 ·rcases h2 b hb with hb | hb
  ·exact h.Asub b hb
  ·exact .inr (.inl (AL h.keep.size hb))
 ·exact h.keep.trans ⟨hk.os,hk.tape,hk.output,hk.size,fun k ay _=>hk.block k ay (fun e=>e)⟩
 ·exact h.kp.same (fun s _=>hs s) fun _ _ _ h _=>h
def op_cvs (h:SRel S A0 O w0 A σ w st tm) {s t e:TypeId} {i:TypeInfo} {x:Operand} {x':AOpd} (ho:o.op=.convert s t x) (hs:S.P.underlying s=some .string) (ht:S.P.underlying t=some (.slice e)) (he:S.P.underlying e=some (.int .u8)) (h1:qF S x=some x')
  (ha:aop (.cvs x') d st=some (v,aa)):wK S A0 O w0 w tm df o v aa:=by
 have g1:=h.ev (df:=df) h1;simp only[aop] at ha;split at ha
 ·rename_i b hb;rw[hb] at g1;have e1:=g1.rel.v_inv;simp only[Option.some.injEq,Prod.mk.injEq] at ha;obtain ⟨rfl,rfl⟩:=ha;generalize aq:(b.data.map (fun c=>Value.int .u8 c.toNat)++Array.replicate (grownCap w b.size 0 e - b.size) (.int .u8 0))=cs;have aG:(execOp (Act.eval ⟨tm,df⟩) o).run S.P w=.ok (.value (.slice (some ⟨w.heap.size,0,none⟩) b.size (grownCap w b.size 0 e))) ((w.drew.alloc (.cells cs e)).freeze ⟨w.heap.size,cs.size,none⟩ 1):=by
   have h0:(w.drew.alloc (.cells cs e)).heap[w.heap.size]? = some (.cells cs e (0,0)):=heap_alloc_new w.drew _;have hsh:(w.drew.alloc (.cells cs e)).shape? w.heap.size=some (e,cs.size):=by simp only[World.shape?,h0]
   have oh:(b.data.map (fun c=>Value.int .u8 c.toNat)++Array.replicate ((Question.appendCap b.size 0 e).cut (w.tape w.drawn (Question.appendCap b.size 0 e)) - b.size) (.int .u8 0))=cs:=aq;have hcv:(Conv.stringToBytes e b).run S.P w=.ok (.slice (some ⟨w.heap.size,0,none⟩) b.size (grownCap w b.size 0 e)) ((w.drew.alloc (.cells cs e)).freeze ⟨w.heap.size,cs.size,none⟩ 1):=(by simp[Conv.stringToBytes,Question.forced,newRow,markStringish];rw[oh,hsh];simp[grownCap]);simp[execOp,ho,e1,convert,run_underlying hs,run_underlying ht,run_underlying he,hcv]
  have hlen:b.size<=cs.size:=by rw[← aq];simp
  have bh:((w.drew.alloc (.cells cs e)).freeze ⟨w.heap.size,cs.size,none⟩ 1).heap[w.heap.size]? = some (.cells cs e (cs.size,cs.size+1)):=by
   have h0:(w.drew.alloc (.cells cs e)).heap[w.heap.size]? = some (.cells cs e (0,0)):=heap_alloc_new w.drew _;have ae:w.heap.size < (w.drew.alloc (.cells cs e)).heap.size:=by simp
   simp only[World.freeze];rw[if_neg (by omega)];simp only[Array.getElem?_modify,if_true,h0,AH];simp
  have hold:∀ k,k < w.heap.size->((w.drew.alloc (.cells cs e)).freeze ⟨w.heap.size,cs.size,none⟩ 1).heap[k]? = w.heap[k]?:=(by intro k hk;simp only[World.freeze];rw[if_neg (by omega)];simp only[Array.getElem?_modify];rw[if_neg (by omega)];exact heap_alloc_old w.drew _ k hk);have bo:((w.drew.alloc (.cells cs e)).freeze ⟨w.heap.size,cs.size,none⟩ 1).heap.size=w.heap.size+1:=(by simp[World.freeze]);generalize hw':(w.drew.alloc (.cells cs e)).freeze ⟨w.heap.size,cs.size,none⟩ 1=w' at *;have fB:KeepO (fun _=>False) w w':=(by refine ⟨?_, ?_, ?_,by omega,fun k hk _=>hold k hk⟩<;>(subst hw';simp only[World.freeze];rw[if_neg (by omega)];rfl))
  have gl:=h.grow (A':=fun c=>A c∨c=w.heap.size) fB (fun _ h=>.inl h) (fun c hc=>hc.imp id (fun e=>by omega)) (fun c hc=>hc.elim (fun hc=>by have:=h.Alt c hc;omega) (fun e=>by omega));refine ⟨_,w',_,σ,aG,gl,.inl ⟨_,rfl,.of0 ?_,by simp[AV.refs]⟩⟩;have hl:(b.data.toList.map fun c=>[AV.v (.int .u8 c.toNat)]).length=b.size:=by simp
  have bj:∀ j,j < b.size->cs.getD j undef=.int .u8 (b.data.toList.getD j 0).toNat:=(by intro j hj;have bB:j < b.data.size:=hj;rw[← aq,Aq,Cc (by simpa using bB),Array.getElem?_map,Aw,BM,Bl bB];rfl)
  have:=VR0.sl (S:=S) (A:=fun c=>A c∨c=w.heap.size) (w:=w') (z:=1) (es:=b.data.toList.map fun c=>[AV.v (.int .u8 c.toNat)]) (b:=w.heap.size) (o:=0) (cap:=grownCap w b.size 0 e) (u:=fun j=>cs.getD j undef) (.inr rfl)
   (by rw[hl];exact grownCap_ge w _ _ _) (by intro e he;rw[Aj] at he;obtain ⟨c,_,rfl⟩:=he;rfl)
   (fun j hj=>by
    rw[hl,Cu] at hj;have:j < cs.size:=by omega
    simp[World.cell?,bh,Array.getD,this])
   (fun j hj=>by rw[hl,Cu] at hj;simp only[bj j hj];rfl)
   (fun ii ee c xx hi hc=>by
    have l7:ii < b.size:=by rw[← hl];exact (Ac.1 hi).1
    simp only[Au,Ag] at hi;obtain ⟨y,hy,rfl⟩:=hi;cases c with
    | zero =>simp at hc;subst hc;simp only[Cu,BD,bj ii l7,List.getD,hy,Be];exact .v _
    | succ c=>simp at hc)
  rwa [hl] at this
 ·cases ha
def zkG {x y:AV} (h:qB (fun _=>none) x=some y):y=x∧x.refs=[]:=by
 cases x with
 | pe=>simp[qB] at h
 | lsl=>simp[qB] at h
 | own=>simp[qB] at h
 | _ =>
  simp only[qB] at h;split at h
  ·rename_i e;exact ⟨(Option.some.inj h).symm,B5.1 e⟩
  ·cases h
def op_lit (h:SRel S A0 O w0 A σ w st tm) {t e:TypeId} {i:TypeInfo} {z:Value} {len:Nat} {ps:Array (Nat×Operand)} {l:List (Nat×AOpd)} (ho:o.op=.buildSlice t len ps) (hu:S.P.underlying t=some (.slice e)) (hi:S.P.info? e=some i) (hz:i.zero=some z)
  (dk:z.cells.size=i.size) (bw:0 < i.size) (bV:i.size<=128) (aV:∀ x∈z.cells.toList,zal x=true) (hl:zj (fun (p:Nat×Operand)=>if p.1 < len then (qF S p.2).map fun x=>(p.1,x) else none) ps.toList=some l)
  (hlen:len<=4096) (ha:aop (.lit i.size z.cells.toList len l) d st=some (v,aa)):wK S A0 O w0 w tm df o v aa:=by
 simp only[aop] at ha;split at ha
 ·rename_i pcs fm;simp only[Option.some.injEq,Prod.mk.injEq] at ha;obtain ⟨rfl,rfl⟩:=ha;obtain ⟨a1,a2⟩:=zG hl;obtain ⟨b1,b2⟩:=zG fm;have zr:=zim (R:=VR0 S A w) (z:=z) (n:=len) (by omega) (fun x _=>.v x) (fun x hx=>zbb (aV x hx));rw[dk] at zr
  obtain ⟨aD,f1,f2⟩:=zco (R:=VR0 S A w) (z:=i.size) pcs (List.replicate len (z.cells.toList.map AV.v)) (ps.toList.map fun p=>(p.1,Act.eval ⟨tm,df⟩ p.2)) _ zr (by rw[Ao];omega)
   (fun j p r hj hr=>by
    obtain ⟨q,hq,b9⟩:=b2 j p hj;obtain ⟨q0,gH,dT⟩:=a2 j q hq;simp only[Au,gH,AH,Option.some.injEq] at hr;subst hr;split at dT
    ·rename_i ae;simp only[Ag] at dT;obtain ⟨x,hx,rfl⟩:=dT;split at b9
     ·rename_i gT iK;split at b9
      ·rename_i cs aq;split at b9
       ·rename_i bk;cases b9;have g:=h.ev (df:=df) hx;obtain ⟨c1,c2,c3,c4⟩:=g.rel.cells iK;obtain ⟨d1,d2⟩:=zG aq;refine ⟨rfl,by simpa using ae,bk,by simp only;omega,fun i a hi => ?_,c3⟩;obtain ⟨x0,aC,aF⟩:=d2 i a hi;obtain ⟨rfl,cO⟩:=zkG aF;exact (c2 i a aC).to0 cO
       ·cases b9
      ·cases b9
     ·cases b9
    ·cases dT)
  have aG:=run_bsl (P:=S.P) w t e len (ps.map fun (i,x)=>(i,Act.eval ⟨tm,df⟩ x)) aD i z hu hi hz (by
    have:len * i.size<=4096 * 128:=BT hlen bV
    omega) (by rw[dk];simpa using f1)
  generalize n6:pcs.foldl (fun es p=>es.set p.1 p.2) (List.replicate len (z.cells.toList.map AV.v))=es at f2;have dz:es.length=len:=by
   have:∀ (ps:List (Nat×List AV)) (es:List (List AV)),(ps.foldl (fun es p=>es.set p.1 p.2) es).length=es.length:=by
    intro ps
    induction ps with
    | nil=>intro es;rfl
    | cons p ps ih=>intro es;simp only[Bv];rw[ih];simp
   rw[← n6,this];simp
  have hold:∀ k,k < w.heap.size->(w.alloc (.cells aD e)).heap[k]? = w.heap[k]?:=fun k hk=>heap_alloc_old w _ k hk;have bh:(w.alloc (.cells aD e)).heap[w.heap.size]? = some (.cells aD e (0,0)):=heap_alloc_new w _;have fB:KeepO (fun _=>False) w (w.alloc (.cells aD e)):=⟨rfl,rfl,rfl,by simp,fun k hk _=>hold k hk⟩;have gl:=h.grow (A':=fun c=>A c∨c=w.heap.size) fB (fun _ h=>.inl h) (fun c hc=>hc.imp id (fun e=>by omega)) (fun c hc=>hc.elim (fun hc=>by have:=h.Alt c hc;simp;omega) (fun e=>by simp;omega));have me:RowRel (VR0 S (fun c=>A c∨c=w.heap.size) (w.alloc (.cells aD e))) i.size es aD:=f2.imp fun x v hx=>hx.mono (fun _ h=>.inl h) fun b hb=>hold b (h.Alt b hb);have cS:zac S (fun c=>A c∨c=w.heap.size) (fun _=>some w.heap.size) (w.alloc (.cells aD e)) 0 (.arr i.size es):=me.blk rfl bh;obtain ⟨q0,⟨q1,_⟩ | ⟨b',vs,bW,q1,q2,q3,q4,q5⟩⟩:=cS
  ·cases q1
  ·cases q1;rw[bh] at q2;cases q2;refine ⟨.value (.slice (some ⟨w.heap.size,0,none⟩) len len),_,_,σ,by simp only[execOp,ho,Sem.run_bind,aG,Result.andThen_ok,Sem.run_pure],gl,.inl ⟨_,rfl,.of0 ?_,by simp[AV.refs]⟩⟩
   have:=VR0.sl (S:=S) (A:=fun c=>A c∨c=w.heap.size) (w:=w.alloc (.cells aD e)) (z:=i.size) (es:=es) (b:=w.heap.size) (o:=0) (cap:=len) (u:=fun j=>aD.getD j undef) (.inr rfl) (by rw[dz];exact AG _) q0
    (fun j hj=>by
     have h1:j < aD.size:=by omega
     simp only[World.cell?,bh,Ba];simp[Array.getD,h1]) (fun j hj=>q4 j hj) (fun ii ee c xx hi hc=>q5 ii ee c xx hi hc)
   rwa [dz] at this
 ·cases ha
def wy (h:SRel S A0 O w0 A σ w st tm) {A':Nat->Prop} (hA:∀ b,A b->A' b) {x y:AV} {v:Value} (hv:VR S A σ w x v) (hs:qE st.hp x=some y)
  (hr:∀ s b,σ s=some b->(s∈x.refs∨∃ s'∈x.refs,zbO st.hp s'=false)->A' b):VR0 S A' w y v:=by
 unfold qE at hs;split at hs
 ·rename_i s off;split at hs
  ·rename_i cs hb;split at hs
   ·rename_i aK aq;cases hs;obtain ⟨b,rfl,hσ⟩:=hv.pv_inv;obtain ⟨b',vs,el,k1,k2,k3,k4⟩:=h.hp _ _ hb;obtain rfl:b'=b:=Option.some.inj (k1.symm.trans hσ);obtain ⟨d1,d2⟩:=zG aq;have all:∀ s' b',σ s'=some b'->A' b':=fun s' b' ah=>hr s' b' ah (.inr ⟨s,by simp[AV.refs],by simp[zbO,hb]⟩);have:=VR0.ep (S:=S) (A:=A') (w:=w) (cs:=aK) (off:=off) (b:=b') (o:=0) (u:=fun j=>vs.getD j undef) (all s b' hσ) (fun j hj=>by
     have:j < vs.size:=by omega
     simp[World.cell?,k2,this,Array.getD]) (fun j x hj=>by
     obtain ⟨x0,aC,aF⟩:=d2 j x hj;exact (wz h hA (k4 j x0 aC) aF fun s' _ b'' ah=>all s' b'' ah).1)
    simpa using this
   ·cases hs
  ·cases hs
 ·rename_i cs;split at hs
  ·rename_i aK aq;cases hs;obtain ⟨vs,rfl,k1,k2⟩:=hv.agg_inv;obtain ⟨d1,d2⟩:=zG aq;refine .agg (by omega) fun j x hj => ?_;obtain ⟨x0,aC,aF⟩:=d2 j x hj;exact (wz h hA (k2 j x0 aC) aF fun s hs b hb=>hr s b hb (.inl (by rw[AV.refs];exact zm.2 ⟨x0,Ad aC,hs⟩))).1
  ·cases hs
 ·exact (wz h hA hv hs fun s ah b hb=>hr s b hb (.inl ah)).1
def zdm (h:SRel S A0 O w0 A σ w st tm) {A':Nat->Prop} (hA:∀ b,A b->A' b) {x y:AV} {v:Value} (hv:VR S A σ w x v) (hs:zai st.hp x=some y)
  (hr:∀ s b,σ s=some b->(s∈x.refs∨∃ s'∈x.refs,zbO st.hp s'=false)->A' b):VR0 S A' w y v:=by
 have sub:∀ {cs:List AV} {x0:AV} {j:Nat},cs[j]? = some x0->∀ s∈x0.refs,s∈AV.refsL cs:=fun hx s hs=>zm.2 ⟨_,Ad hx,hs⟩;unfold zai at hs;split at hs
 ·rename_i f caps;split at hs
  ·rename_i aK aq;cases hs;obtain ⟨g,vs,rfl,k0,k1,k2⟩:=hv.fn_inv;obtain ⟨d1,d2⟩:=zG aq;refine .fn k0 (by omega) fun j x hj => ?_;obtain ⟨x0,aC,aF⟩:=d2 j x hj;exact wy h hA (k2 j x0 aC) aF fun s b hb hh=>hr s b hb (by rw[AV.refs];exact hh.imp (sub aC s) fun ⟨s',h1,h2⟩=>⟨s',sub aC s' h1,h2⟩)
  ·cases hs
 ·rename_i cs;split at hs
  ·rename_i aK aq;cases hs;obtain ⟨vs,rfl,k1,k2⟩:=hv.tup_inv;obtain ⟨d1,d2⟩:=zG aq;refine .tup (by omega) fun j x hj => ?_;obtain ⟨x0,aC,aF⟩:=d2 j x hj;exact wy h hA (k2 j x0 aC) aF fun s b hb hh=>hr s b hb (by rw[AV.refs];exact hh.imp (sub aC s) fun ⟨s',h1,h2⟩=>⟨s',sub aC s' h1,h2⟩)
  ·cases hs
 ·rename_i cs;split at hs
  ·rename_i aK aq;cases hs;obtain ⟨vs,rfl,k1,k2⟩:=hv.agg_inv;obtain ⟨d1,d2⟩:=zG aq;refine .agg (by omega) fun j x hj => ?_;obtain ⟨x0,aC,aF⟩:=d2 j x hj;exact wy h hA (k2 j x0 aC) aF fun s b hb hh=>hr s b hb (by rw[AV.refs];exact hh.imp (sub aC s) fun ⟨s',h1,h2⟩=>⟨s',sub aC s' h1,h2⟩)
  ·cases hs
 ·exact wy h hA hv hs hr
def wE {A':Nat->Prop} {w':World} {x:AV} {v:Value} (h:VR0 S A w x v) (hp:x.plain1=true):VR0 S A' w' x v:=by
 cases h with
 | bot=>exact .bot _
 | v=>exact .v _
 | @ifc t T y v h1 h2 =>
  cases y with
  | v x=>cases h2;exact .ifc h1 (.v _)
  | bot=>exact .ifc h1 (.bot _)
  | _=>simp[AV.plain1] at hp
 | _=>simp[AV.plain1] at hp
def my {A':Nat->Prop} {w':World} {x:AV} {v:Value} (h:VR0 S A w x v) (hp:x.plain2=true):VR0 S A' w' x v:=by
 by_cases hx:∃ cs,x=.agg cs
 ·obtain ⟨cs,rfl⟩:=hx;cases h with
  | agg h1 h2=>exact .agg h1 fun i x hx=>wE (h2 i x hx) (Ae.1 hp x (Ad hx))
 ·refine wE h ?_;unfold AV.plain2 at hp;unfold AV.plain1;split at hp
  ·rfl
  ·rfl
  ·rfl
  ·rfl
  ·exact absurd ⟨_,rfl⟩ hx
  ·cases hp
def zhn {A':Nat->Prop} {w':World} {x:AV} {v:Value} (h:VR0 S A w x v) (hp:x.plain=true):VR0 S A' w' x v:=by
 by_cases hx:∃ cs,x=.agg cs
 ·obtain ⟨cs,rfl⟩:=hx;cases h with
  | agg h1 h2=>exact .agg h1 fun i x hx=>wE (h2 i x hx) (Ae.1 hp x (Ad hx))
 ·by_cases hy:∃ cs,x=.tup cs
  ·obtain ⟨cs,rfl⟩:=hy;cases h with
   | tup h1 h2=>exact .tup h1 fun i x hx=>my (h2 i x hx) (Ae.1 hp x (Ad hx))
  ·refine wE h ?_;unfold AV.plain at hp;unfold AV.plain1;split at hp
   ·rfl
   ·rfl
   ·rfl
   ·rfl
   ·exact absurd ⟨_,rfl⟩ hx
   ·exact absurd ⟨_,rfl⟩ hy
   ·cases hp
def SRel.jpre (h:SRel S A0 O w0 A σ w st tm) (jr:JR S A0 O w0):JR S (fun b=>A b∨∃ s,σ s=some b) (fun _=>False) w:=by
 have bh:∀ b,S.jg b->¬ (w0.heap.size<=b∨O b):=fun b hb e=>e.elim (fun e=>by have:=jr.lt b hb;omega) (jr.no b hb);refine ⟨S.jnK w0 w (fun b hb=>⟨jr.lt b hb,h.keep.block b (jr.lt b hb) (jr.no b hb)⟩) jr.jn,fun b hb=>AU (jr.lt b hb) h.keep.size,fun b hb ha => ?_,fun b hb e=>e,jr.ng⟩;rcases ha with ha | ⟨s,hs⟩
 ·exact (h.Asub b ha).elim (jr.na b hb) (bh b hb)
 ·exact bh b hb (h.dom s b hs).2.2.2
def SRel.jpreA (h:SRel S A0 O w0 A σ w st tm) (jr:JR S A0 O w0):JR S A (fun _=>False) w:=(h.jpre jr).mono (fun _ h=>.inl h) fun _ h=>h
def SRel.reb (h:SRel S A0 O w0 A σ w st tm) (jr:JR S A0 O w0) {w':World} (hw:w.heap.size<=w'.heap.size) (hj:S.jn w'):SRel S A0 O (cA S w0 w') A σ (cA S w w') st tm∧JR S A0 O (cA S w0 w'):=by
 have jp:=h.jpre jr;have hA:∀ b,A b->(cA S w w').heap[b]? = w.heap[b]?:=fun b hb=>yT fun e=>jp.na b e (.inl hb);have hσ:∀ s b,σ s=some b->(cA S w w').heap[b]? = w.heap[b]?:=fun s b hb=>yT fun e=>jp.na b e (.inr ⟨s,hb⟩);have bP:∀ s,zcE σ σ w (cA S w w') s:=fun s=>⟨rfl,fun b cs el hb hc=>⟨cs,by rw[hσ s b hb];exact hc,rfl⟩⟩;refine ⟨⟨fun k=>(h.fr k).mono (fun _ h=>h) hA fun s _=>bP s,fun s blk hb=>(h.hp s blk hb).mono (fun _ h=>h) hA rfl (fun b hb=>hσ s b hb) fun s' _=>bP s',h.dang,h.dangV,fun s b hs => ?_,h.inj,fun b hb=>by rw[qp];exact h.Alt b hb,fun b hb=>by rw[qp];exact h.Asub b hb, ?_,h.kp.of fun s _ _=>⟨bP s,fun z es he=>⟨es,he,rfl⟩⟩,fun b hb=>by rw[qp];exact h.Olt.1 b hb,h.Olt.2.1, ?_⟩, ?_⟩
 ·rw[qp,qp];exact h.dom s b hs
 ·refine ⟨h.keep.os,h.keep.tape,h.keep.output,by rw[qp,qp];exact h.keep.size,fun k hk hO => ?_⟩;rw[qp] at hk;have dv:=AU hk h.keep.size;by_cases c:S.jg k
  ·rw[zfX c hk (AU dv hw),zfX c dv (AU dv hw)]
  ·rw[yT c,yT c];exact h.keep.block k hk hO
 ·exact h.Olt.2.2.keep (O:=S.jg) jr.ng ⟨rfl,rfl,rfl,by rw[qp];exact AG _,fun k _ hO=>yT hO⟩
 ·exact ⟨S.jnK w' _ (fun b hb=>⟨AU (AU (jr.lt b hb) h.keep.size) hw,zfX hb (jr.lt b hb) (AU (AU (jr.lt b hb) h.keep.size) hw)⟩) hj,fun b hb=>by rw[qp];exact jr.lt b hb,jr.na,jr.no,jr.ng⟩
def zbq (S:Seat) (A0:Nat->Prop) (O:Hnd) (w0:World) (A:Nat->Prop) (σ:Nat->Option Nat) (w:World) (st:ASt) (tm:Array Value):Prop :=
 ∃ w1,RebR S w0 w1∧JR S A0 O w1∧SRel S A0 O w1 A σ w st tm
def bm (S:Seat) (A:Nat->Prop) (w:World) (b?:Option Nat) (x:AV) (v:Value):Prop :=
 match x with
 | .own z es=>qY S A w b? z es v
 | x=>b? = none∧VR0 S A w x v
def jE (A:Nat->Prop) (β:Nat->Option Nat) (w w':World) (b:Nat):Prop:=(A b∨w.heap.size<=b)∧b < w'.heap.size∧∀ i,β i≠some b
def fQ (S:Seat) (A:Nat->Prop) (w:World) (β:Nat->Option Nat) (r:AV) (v:Value):Prop :=
 match r with
 | .tup rs=>∃ vs,v=.tuple vs∧rs.length=vs.size∧∀ (i:Nat) (x:AV),rs[i]? = some x->bm S A w (β i) x (vs.getD i undef)
 | r=>bm S A w (β 0) r v
def zkt (S:Seat) (A:Nat->Prop) (w w':World) (r:AV) (v:Value):Prop :=
 ∃ β:Nat->Option Nat,(∀ i b,β i=some b->w.heap.size<=b∧b < w'.heap.size)∧(∀ i j b,β i=some b->β j=some b->i=j)∧fQ S (jE A β w w') w' β r v
def zdD (S:Seat) (g:FuncId) (args:List AV) (r:AV):Prop :=
 ∀ (A:Nat->Prop) (w:World) (vs:Array Value),vs.size=args.length->((∀ b,A b->b < w.heap.size)∧Inv S w)->(∀ (i:Nat) (x:AV),args[i]? = some x->VR0 S A w x (vs.getD i undef)) ->
  Calls S.P g vs w fun e w'=>∃ v,e=.returned v∧KeepO (fun _=>False) w w'∧zkt S A w w' r v
def zeV (S:Seat) (g:FuncId) (args:List AV) (r:AV):Prop :=
 ∀ (A:Nat->Prop) (w:World) (vs:Array Value),vs.size=args.length->((∀ b,A b->b < w.heap.size)∧Inv S w)->JR S A (fun _=>False) w->(∀ (i:Nat) (x:AV),args[i]? = some x->VR0 S A w x (vs.getD i undef)) ->
  Calls S.P g vs w fun e w'=>∃ v,e=.returned v∧KeepO S.jg w w'∧S.jn w'∧zkt S A w w' r v
def zdD.up {g:FuncId} {args:List AV} {r:AV} (h:zdD S g args r):zeV S g args r:=by intro A w vs hl hA hJ ha;refine (h A w vs hl hA ha).mono ?_;rintro e w' ⟨v,he,hk,hr⟩;exact ⟨v,he,⟨hk.os,hk.tape,hk.output,hk.size,fun k ay _=>hk.block k ay fun e=>e⟩,hJ.after hk,hr⟩
def zkt.same {w1 w':World} {r:AV} {v:Value} (hs:w1.heap.size=w.heap.size) (h:zkt S A w w' r v):zkt S A w1 w' r v:=by
 obtain ⟨β,h1,h2,h3⟩:=h;have e:jE A β w1 w'=jE A β w w':=by funext b;simp only[jE,hs]
 exact ⟨β,fun i b hb=>by rw[hs];exact h1 i b hb,h2,by rw[e];exact h3⟩
def zkt.reb {w':World} {r:AV} {v:Value} (h:zkt S A w w' r v):zkt S A (cA S w w') w' r v:=h.same qp
def zie (ι:Nat->Option Nat) (b:Nat):Prop:=∃ i,ι i=some b
def yM (ι:Nat->Option Nat) (outs:zdg) (b:Nat):Prop:=∃ i,ι i=some b∧∀ es,(i,es) ∉ outs
def zdf (S:Seat) (args:List AV) (ι:Nat->Option Nat) (vs:Array Value) (w w':World) (outs:zdg) (A':Nat->Prop):Prop :=
 ∀ (i:Nat) (es:List (List AV)) (z:Nat) (aZ:List (List AV)),(i,es)∈outs->args[i]? = some (.own z aZ)->es.length=aZ.length∧qY S A' w' (ι i) z es (vs.getD i undef) ∧
  ∀ b cs el,ι i=some b->w.heap[b]? = some (.cells cs el (0,0))->∃ aK,w'.heap[b]? = some (.cells aK el (0,0))∧aK.size=cs.size
def zjq (S:Seat) (A E:Nat->Prop) (T:(Nat->Prop)->Prop) (w w':World) (r:AV) (v:Value):Prop :=
 ∃ β:Nat->Option Nat,(∀ i b,β i=some b->(w.heap.size<=b∨E b)∧b < w'.heap.size)∧(∀ i j b,β i=some b->β j=some b->i=j)∧T (jE (fun b=>A b∨E b) β w w')∧fQ S (jE (fun b=>A b∨E b) β w w') w' β r v
def zku (S:Seat) (g:FuncId) (args:List AV) (r:AV) (outs:zdg):Prop :=
 ∀ (A:Nat->Prop) (w:World) (vs:Array Value) (ι:Nat->Option Nat),vs.size=args.length->((∀ b,A b->b < w.heap.size)∧Inv S w) ->
  ((∀ i b,ι i=some b->i < args.length∧b < w.heap.size∧¬ A b∧∀ p∈S.globB,p≠b)∧∀ i j b,ι i=some b->ι j=some b->i=j) ->
  (∀ (i:Nat) (x:AV),args[i]? = some x->bm S A w (ι i) x (vs.getD i undef)) ->
  Calls S.P g vs w fun e w'=>∃ v,e=.returned v∧KeepO (zie ι) w w'∧zjq S A (yM ι outs) (zdf S args ι vs w w' outs) w w' r v
def zaI (S:Seat) (g:FuncId) (args:List AV) (r:AV) (outs:zdg):Prop :=
 ∀ (A:Nat->Prop) (w:World) (vs:Array Value) (ι:Nat->Option Nat),vs.size=args.length->((∀ b,A b->b < w.heap.size)∧Inv S w) ->
  ((∀ i b,ι i=some b->i < args.length∧b < w.heap.size∧¬ A b∧∀ p∈S.globB,p≠b)∧∀ i j b,ι i=some b->ι j=some b->i=j)->JR S A (zie ι) w ->
  (∀ (i:Nat) (x:AV),args[i]? = some x->bm S A w (ι i) x (vs.getD i undef)) ->
  Calls S.P g vs w fun e w'=>∃ v,e=.returned v∧KeepO (fun b=>zie ι b∨S.jg b) w w'∧S.jn w'∧zjq S A (yM ι outs) (zdf S args ι vs w w' outs) w w' r v
def zku.up {g:FuncId} {args:List AV} {r:AV} {outs:zdg} (h:zku S g args r outs):zaI S g args r outs:=by intro A w vs ι hl hA hι hJ ha;refine (h A w vs ι hl hA hι ha).mono ?_;rintro e w' ⟨v,he,hk,hr⟩;exact ⟨v,he,⟨hk.os,hk.tape,hk.output,hk.size,fun k ay hn=>hk.block k ay fun e=>hn (.inl e)⟩,S.jnK w w' (fun b hb=>⟨hJ.lt b hb,hk.block b (hJ.lt b hb) (hJ.no b hb)⟩) hJ.jn,hr⟩
def qY.mono {A A':Nat->Prop} (hA:∀ b,A b->A' b) {b?:Option Nat} {z:Nat} {es:List (List AV)} {v:Value} (h:qY S A w b? z es v):qY S A' w b? z es v:=by
 obtain ⟨h0,h1 | ⟨b,cap,vs,el,h1,h2,h3,h4,h5,h6,h7,h8⟩⟩:=h
 ·exact ⟨h0,.inl h1⟩
 ·exact ⟨h0,.inr ⟨b,cap,vs,el,h1,h2,h3,h4,h5,h6,h7,fun i e c x hi hc=>(h8 i e c x hi hc).mono hA fun _ _=>rfl⟩⟩
def bm.mono {A A':Nat->Prop} (hA:∀ b,A b->A' b) {b?:Option Nat} {x:AV} {v:Value} (h:bm S A w b? x v):bm S A' w b? x v:=by
 cases x with
 | own z es=>exact qY.mono hA h
 | _=>exact ⟨h.1,h.2.mono hA fun _ _=>rfl⟩
def fQ.mono {A A':Nat->Prop} (hA:∀ b,A b->A' b) {β:Nat->Option Nat} {r:AV} {v:Value} (h:fQ S A w β r v):fQ S A' w β r v:=by
 cases r with
 | tup rs=>obtain ⟨vs,h1,h2,h3⟩:=h;exact ⟨vs,h1,h2,fun i x hx=>(h3 i x hx).mono hA⟩
 | _=>unfold fQ at h ⊢;exact bm.mono hA h
def jQ {x:AV} {v:Value} (h:VR0 S A w x v):bm S A w none x v:=by
 cases x with
 | own z es=>cases h
 | _=>exact ⟨rfl,h⟩
def zaY {b?:Option Nat} {x:AV} {v:Value} (h:bm S A w b? x v) (hx:zI x=false):b? = none∧VR0 S A w x v:=by
 cases x with
 | own z es=>simp[zI] at hx
 | _=>exact h
def zhj {g:FuncId} {args:List AV} {r:AV} (h:zeV S g args r) (ha:∀ x∈args,zI x=false):zaI S g args r []:=by intro A w vs ι hl hA hι hJ hargs;refine (h A w vs hl hA (hJ.mono (fun _ h=>h) fun _ h=>h.elim) fun i x hx=>(zaY (hargs i x hx) (ha x (Ad hx))).2).mono ?_;rintro e w' ⟨v,he,hk,hj,β,hβ,aR,hr⟩;refine ⟨v,he,⟨hk.os,hk.tape,hk.output,hk.size,fun k ay hn=>hk.block k ay (fun e=>hn (.inr e))⟩,hj,β,fun i b hb=>⟨.inl (hβ i b hb).1,(hβ i b hb).2⟩,aR,(fun i es z aZ hm=>by cases hm),hr.mono fun b hb=>⟨hb.1.imp .inl id,hb.2⟩⟩
def zbA {g:FuncId} {args:List AV} {r:AV} (h:zdD S g args r) (ha:∀ x∈args,zI x=false):zaI S g args r []:=zhj h.up ha
def zaI.old {g:FuncId} {args:List AV} {r:AV} (h:zaI S g args r []) (ha:∀ x∈args,zI x=false):zeV S g args r:=by
 intro A w vs hl hA hJ hargs;refine (h A w vs (fun _=>none) hl hA ⟨by simp,by simp⟩ (hJ.mono (fun _ h=>h) fun b ⟨i,e⟩=>by cases e) fun i x hx=>jQ (hargs i x hx)).mono ?_;rintro e w' ⟨v,he,hk,hj,β,hβ,aR,_,hr⟩;have hE:∀ b,¬ yM (fun _=>none) [] b:=fun b ⟨i,h,_⟩=>by cases h
 refine ⟨v,he,⟨hk.os,hk.tape,hk.output,hk.size,fun k ay hn=>hk.block k ay (fun e=>e.elim (fun ⟨i,e⟩=>by cases e) hn)⟩,hj,β,fun i b hb=>⟨(hβ i b hb).1.resolve_right (hE b),(hβ i b hb).2⟩,aR,hr.mono fun b hb=>⟨hb.1.imp (fun h=>h.resolve_right (hE b)) id,hb.2⟩⟩
structure Plain (S:Seat):Prop where
 g:∀ b,¬ S.jg b
 n:∀ w,S.jn w
def zaI.old0 (hP:Plain S) {g:FuncId} {args:List AV} {r:AV} (h:zaI S g args r []) (ha:∀ x∈args,zI x=false):zdD S g args r:=by intro A w vs hl hA hargs;refine (h.old ha A w vs hl hA (.none hP.g hP.n _ _ _) hargs).mono ?_;rintro e w' ⟨v,he,hk,_,hr⟩;exact ⟨v,he,⟨hk.os,hk.tape,hk.output,hk.size,fun k ay _=>hk.block k ay (hP.g k)⟩,hr⟩
def ziw {hp:Nat->Option Blk} {x y:AV} (h:qB hp x=some y):zI y=false:=by
 cases x with
 | own z es=>simp[qB] at h
 | pe s z i off=>simp only[qB] at h;repeat' split at h
                 all_goals (first | (cases h;rfl) | cases h)
 | lsl s z off len=>simp only[qB] at h;repeat' split at h
                    all_goals (first | (cases h;rfl) | cases h)
 | _=>simp only[qB] at h;repeat' split at h
      all_goals (first | (cases h;rfl) | cases h)
def ziv {hp:Nat->Option Blk} {x y:AV} (h:qE hp x=some y):zI y=false:=by
 cases x with
 | pv s off=>simp only[qE] at h;repeat' split at h
             all_goals (first | (cases h;rfl) | cases h)
 | agg cs=>simp only[qE] at h;repeat' split at h
           all_goals (first | (cases h;rfl) | cases h)
 | _=>simp only[qE] at h;exact ziw h
def wx {hp:Nat->Option Blk} {x y:AV} (h:zai hp x=some y):zI y=false:=by
 cases x with
 | fn f cs=>simp only[zai] at h;repeat' split at h
            all_goals (first | (cases h;rfl) | cases h)
 | tup cs=>simp only[zai] at h;repeat' split at h
           all_goals (first | (cases h;rfl) | cases h)
 | agg cs=>simp only[zai] at h;repeat' split at h
           all_goals (first | (cases h;rfl) | cases h)
 | _=>simp only[zai] at h;exact ziv h
def zh (S:Seat):Rets:=⟨fun f args r outs=>∀ g,qL g S.fns=some f->zaI S g args r outs,fun st aj=>∀ (A0:Nat->Prop) (O:Hnd) (w0:World) (A:Nat->Prop) (σ:Nat->Option Nat) (w:World) (tm:Array Value),SRel S A0 O w0 A σ w st tm->∃ A' σ',SRel S A0 O w0 A' σ' w aj tm⟩
end
end
section
open Go Go.RowKit
section
variable {S:Seat} {A0:Nat->Prop} {O:Hnd} {w0:World} {A:Nat->Prop} {σ:Nat->Option Nat} {w:World} {st aa:ASt} {tm:Array Value} {df:List Deferred} {o:Oper} {v:AV} {d:Nat}
def SRel.addSite (h:SRel S A0 O w0 A σ w st tm) {d:Nat} (hd:st.hp d=none) {b?:Option Nat} {blk:Blk} (hr:blk.refs=[]) (hb:zac S A (upd σ d b?) w d blk)
  (hq:∀ b,b? = some b->b < w.heap.size∧¬ A b∧(w0.heap.size<=b∨O b)∧∀ s,σ s≠some b):SRel S A0 O w0 A (upd σ d b?) w (st.setH d (some blk)) tm:=by
 have bP:∀ s,st.hp s≠none->zcE σ (upd σ d b?) w w s:=fun s hs=>⟨zcI _ _ _ (fun e=>hs (e ▸ hd)),fun b cs el _ hb=>⟨cs,hb,rfl⟩⟩;refine ⟨fun k=>(h.fr k).mono (fun _ h=>h) (fun _ _=>rfl) fun s hs=>bP s (h.dang k s hs),fun s b hs => ?_,fun k s hs => ?_,fun s cs hs s' ah => ?_,fun s b hs => ?_,fun s s' b h1 h2 => ?_,h.Alt,h.Asub,h.keep,h.kp.same bP fun s z es he _=>by
  have ak:s≠d:=fun e=>by rw[e,hd] at he;cases he
  simp only[ASt.setH,upd,if_neg ak];exact he,h.Olt⟩
 ·simp only[ASt.setH,upd] at hs;split at hs
  ·rename_i e;subst e;cases hs;exact hb
  ·rename_i ak;refine (h.hp s b hs).mono (fun _ h=>h) (fun _ _=>rfl) (zcI _ _ _ ak) (fun _ _=>rfl) fun s' ah=>bP s' ?_;cases b with
   | var cs=>exact h.dangV s cs hs s' (by rw[Blk.refs] at ah;exact ah)
   | arr z es=>simp[Blk.refs] at ah
 ·simp only[ASt.setH,upd];split
  ·simp
  ·exact h.dang k s hs
 ·simp only[ASt.setH,upd] at hs ⊢;split
  ·simp
  ·split at hs
   ·cases hs;rw[Blk.refs] at hr;rw[hr] at ah;cases ah
   ·exact h.dangV s cs hs s' ah
 ·simp only[upd] at hs;split at hs
  ·rename_i e;subst e;obtain ⟨k1,k2,k3,k4⟩:=hq b hs;exact ⟨by simp[ASt.setH,upd],k1,k2,k3⟩
  ·rename_i ak;obtain ⟨k1,k2⟩:=h.dom s b hs;exact ⟨by simp[ASt.setH,upd,ak];exact k1,k2⟩
 ·simp only[upd] at h1 h2;split at h1
  ·rename_i e1;split at h2
   ·rename_i e2;exact e1.trans e2.symm
   ·exact absurd h2 ((hq b h1).2.2.2 s')
  ·split at h2
   ·exact absurd h1 ((hq b h2).2.2.2 s)
   ·exact h.inj s s' b h1 h2
def ym {b?:Option Nat} {z:Nat} {es:List (List AV)} {rv:Value} (h:qY S A w b? z es rv) {σ':Nat->Option Nat} {d:Nat} (hσ:σ' d=b?) :
  VR S A σ' w (.lsl d z 0 es.length) rv∧zac S A σ' w d (.arr z es):=by
 obtain ⟨h0,⟨h1,rfl,rfl⟩ | ⟨b,cap,vs,el,h1,rfl,h2,h3,h4,h5,h6,h7⟩⟩:=h
 ·exact ⟨.lslnil (hσ.trans h1),h0,.inl ⟨hσ.trans h1,rfl⟩⟩
 ·refine ⟨.lsl (hσ.trans h1) h2 (fun _=>by simp) h4 (by simpa using h5) h3,h0,.inr ⟨b,vs,el,hσ.trans h1,h4,AL (AP _ h2) h5,h6,h7⟩⟩
def zcl {β:Nat->Option Nat} {us:Array Value} {d:Nat} (hβ:∀ i b,β i=some b->b < w.heap.size∧¬ A b∧(w0.heap.size<=b∨O b)) (aR:∀ i j b,β i=some b->β j=some b->i=j) :
  ∀ (rs:List AV) (i:Nat) {σ:Nat->Option Nat} {st:ASt} {ys:List AV} {aa:ASt},SRel S A0 O w0 A σ w st tm->(∀ (j:Nat) (x:AV),rs[j]? = some x->bm S A w (β (i+j)) x (us.getD (i+j) undef)) ->
   (∀ s b k,σ s=some b->i<=k->β k≠some b)->bT d i rs st=some (ys,aa) ->
   ∃ σ',SRel S A0 O w0 A σ' w aa tm∧ys.length=rs.length∧(∀ (j:Nat) (y:AV),ys[j]? = some y->Got S A σ' w aa y (us.getD (i+j) undef))∧∀ s,st.hp s≠none->σ' s=σ s∧aa.hp s≠none
 | [],i,σ,st,ys,aa,h,_,_,hi=>by
  simp only[bT,Option.some.injEq,Prod.mk.injEq] at hi;obtain ⟨rfl,rfl⟩:=hi;exact ⟨σ,h,rfl,by simp,fun s hs=>⟨rfl,hs⟩⟩
 | x :: r,i,σ,st,ys,aa,h,ha,hd,hi=>by
  have ct:∀ (j:Nat) (x:AV),r[j]? = some x->bm S A w (β (i+1+j)) x (us.getD (i+1+j) undef):=fun j y hj=>by
   have:=ha (j+1) y (by simpa using hj)
   rwa [show i+(j+1)=i+1+j by omega] at this
  have h0:=ha 0 x rfl;simp only[BD] at h0;by_cases hx:∃ z es,x=.own z es
  ·obtain ⟨z,es,rfl⟩:=hx;simp only[bT] at hi;split at hi
   ·rename_i bN kC hn aQ;simp only[Option.some.injEq,Prod.mk.injEq] at hi;obtain ⟨rfl,rfl⟩:=hi;have mc:qY S A w (β i) z es (us.getD i undef):=h0;obtain ⟨v1,v2⟩:=ym mc (σ':=upd σ (d+10000 * (i+1)) (β i)) (qG _ _ _);have h1:=h.addSite hn (b?:=β i) (blk:=.arr z es) rfl v2 fun b hb=>⟨(hβ i b hb).1,(hβ i b hb).2.1,(hβ i b hb).2.2,fun s hs=>hd s b i hs (AG _) hb⟩;obtain ⟨σ',k1,k2,k3,k4⟩:=zcl hβ aR r (i+1) h1 ct (fun s b k hs hk hb=>by
     simp only[upd] at hs;split at hs
     ·have:=aR i k b hs hb;omega
     ·exact hd s b k hs (by omega) hb) aQ
    obtain ⟨q1,q2⟩:=k4 (d+10000 * (i+1)) (by simp[ASt.setH,upd]);refine ⟨σ',k1,by simp[k2],fun j y hj => ?_,fun s hs => ?_⟩
    ·cases j with
     | zero =>
      simp at hj;subst hj;refine ⟨v1.mono (fun _ h=>h) (fun _ _=>rfl) fun s hs => ?_,fun s hs => ?_⟩
      ·rw[AV.refs,Ai] at hs;subst hs;exact ⟨q1,fun b cs el _ hb=>⟨cs,hb,rfl⟩⟩
      ·rw[AV.refs,Ai] at hs;subst hs;exact q2
     | succ j =>
      simp at hj;have:=k3 j y (by simpa using hj)
      rwa [show i+1+j=i+(j+1) by omega] at this
    ·have ak:s≠d+10000 * (i+1):=fun e=>hs (e ▸ hn);obtain ⟨e1,e2⟩:=k4 s (by simp[ASt.setH,upd,ak];exact hs);exact ⟨e1.trans (zcI _ _ _ ak),e2⟩
   ·cases hi
  ·have mc:β i=none∧VR0 S A w x (us.getD i undef):=by
    cases x with
    | own z es=>exact absurd ⟨z,es,rfl⟩ hx
    | _=>exact h0
   have aO:∃ bN,bT d (i+1) r st=some (bN,aa)∧ys=x :: bN:=by
    cases x with
    | own z es=>exact absurd ⟨z,es,rfl⟩ hx
    | _ =>
     simp only[bT] at hi;split at hi
     ·rename_i bN kC aQ;simp only[Option.some.injEq,Prod.mk.injEq] at hi;obtain ⟨rfl,rfl⟩:=hi;exact ⟨_,aQ,rfl⟩
     ·cases hi
   obtain ⟨bN,aQ,rfl⟩:=aO;obtain ⟨σ',k1,k2,k3,k4⟩:=zcl hβ aR r (i+1) h ct (fun s b k hs hk=>hd s b k hs (by omega)) aQ;refine ⟨σ',k1,by simp[k2],fun j y hj => ?_,k4⟩;cases j with
   | zero =>simp at hj;subst hj;exact ⟨.of0 mc.2,fun s hs=>(yW mc.2 s hs).elim⟩
   | succ j =>
    simp at hj;have:=k3 j y (by simpa using hj)
    rwa [show i+1+j=i+(j+1) by omega] at this
def mv (hg:SRel S A0 O w0 A σ w st tm) {β:Nat->Option Nat} (hβ':∀ i b,β i=some b->b < w.heap.size∧¬ A b∧(w0.heap.size<=b∨O b)) (aR:∀ i j b,β i=some b->β j=some b->i=j)
  (fE:∀ s b k,σ s=some b->β k≠some b) {r:AV} {rv:Value} (hr:fQ S A w β r rv) {d:Nat} (hi:imp d r st=some (v,aa)) :
  ∃ σ',SRel S A0 O w0 A σ' w aa tm∧Got S A σ' w aa v rv:=by
 have plain:VR0 S A w r rv->imp d r st=some (r,st)->∃ σ',SRel S A0 O w0 A σ' w aa tm∧Got S A σ' w aa v rv:=(by intro hv he;rw[he] at hi;simp only[Option.some.injEq,Prod.mk.injEq] at hi;obtain ⟨rfl,rfl⟩:=hi;exact ⟨_,hg,.of0 hv,fun s hs=>(yW hv s hs).elim⟩);cases r with
 | own z es =>
  simp only[imp] at hi;split at hi
  ·rename_i hn;simp only[Option.some.injEq,Prod.mk.injEq] at hi;obtain ⟨rfl,rfl⟩:=hi;have cK:qY S A w (β 0) z es rv:=hr;obtain ⟨v1,v2⟩:=ym cK (σ':=upd σ d (β 0)) (qG _ _ _);exact ⟨_,hg.addSite hn (b?:=β 0) (blk:=.arr z es) rfl v2 fun b hb=>⟨(hβ' 0 b hb).1,(hβ' 0 b hb).2.1,(hβ' 0 b hb).2.2,fun s hs=>fE s b 0 hs hb⟩,v1,fun s hs=>by
    rw[AV.refs,Ai] at hs;subst hs;simp[ASt.setH,upd]⟩
  ·cases hi
 | tup rs =>
  obtain ⟨us,rfl,hl,ha⟩:=hr;simp only[imp] at hi;split at hi
  ·rename_i ys kC aQ;simp only[Option.some.injEq,Prod.mk.injEq] at hi;obtain ⟨rfl,rfl⟩:=hi;obtain ⟨σ',k1,k2,k3,k4⟩:=zcl (us:=us) hβ' aR rs 0 hg (by simpa using ha) (fun s b k hs _=>fE s b k hs) aQ;refine ⟨σ',k1,.tup (by omega) fun i x hx=>by simpa using (k3 i x hx).rel,fun s hs => ?_⟩;rw[AV.refs,zm] at hs;obtain ⟨x,hx,hs⟩:=hs;obtain ⟨i,hi⟩:=AA.1 hx;exact (k3 i x hi).dang s hs
  ·cases hi
 | _=>unfold fQ at hr;exact plain hr.2 rfl
def imp_sound (h:SRel S A0 O w0 A σ w st tm) {w':World} (hk:KeepO (fun _=>False) w w') {r:AV} {rv:Value} (hr:zkt S A w w' r rv) {d:Nat} (hi:imp d r st=some (v,aa)) :
  ∃ A' σ',SRel S A0 O w0 A' σ' w' aa tm∧Got S A' σ' w' aa v rv:=by
 obtain ⟨β,hβ,aR,hr⟩:=hr
 have hg:SRel S A0 O w0 (jE A β w w') σ w' st tm:=h.grow hk
  (fun b hb=>⟨.inl hb,AU (h.Alt b hb) hk.size,fun i e=>by have:=(hβ i b e).1;have:=h.Alt b hb;omega⟩) (fun b hb=>hb.1) (fun b hb=>hb.2.1)
 obtain ⟨σ',k⟩:=mv hg (fun i b hb=>⟨(hβ i b hb).2,fun hh=>hh.2.2 i hb,.inl (AL h.keep.size (hβ i b hb).1)⟩) aR
  (fun s b k hs hb=>by have:=(h.dom s b hs).2.1;have:=(hβ k b hb).1;omega) hr hi
 exact ⟨_,σ',k⟩
def zak {hp:Nat->Option Blk}:∀ (i:Nat) (args:List AV),zV hp [] i args=zj (zai hp) args
 | _,[]=>rfl
 | i,x :: r=>by
  have:=zak (hp:=hp) (i+1) r;simp only[zV,handed,Co,Db,CY,Ap,if_false,BE,if_true,zj,this];cases zai hp x<;>cases zj (zai hp) r<;>rfl
def zcT:∀ (i:Nat) (args:List AV),qi [] i args=[]
 | _,[]=>rfl
 | i,x :: r=>by simp[qi,handed,zcT (i+1) r]
def jo:∀ (i:Nat) (args:List AV),zK [] i args=[]
 | _,[]=>rfl
 | i,x :: r=>by simp[zK,handed,jo (i+1) r]
def zjb (h:SRel S A0 O w0 A σ w st tm) (jr:JR S A0 O w0) {args:List AV} {vs:Array Value} (hl:vs.size=args.length) (hg:∀ (i:Nat) (x:AV),args[i]? = some x->Got S A σ w st x (vs.getD i undef))
  {g f:Nat} (hf:qL g S.fns=some f) {frz:Bool} (hc:zbs (zh S) frz [] f args d st v aa) :
  Calls S.P g vs w fun e w'=>∃ rv A' σ' w1,e=.returned rv∧RebR S w0 w1∧JR S A0 O w1∧SRel S A0 O w1 A' σ' w' aa tm∧Got S A' σ' w' aa v rv:=by
 obtain ⟨an,r,outs,aj,al,p1,p2,aY,p4,⟨p7,p8,p5⟩,p6⟩:=hc;obtain rfl:outs=[]:=by simpa[jG] using p8
 rw[jo] at p5 p6;simp only[ASt.dropL,wQ,Option.some.injEq] at p5;subst p5;simp only[impE] at p6;rw[zak] at p1;have gF:zeV S g an r:=(aY g hf).old fun x hx=>(by obtain ⟨i,hi⟩:=AA.1 hx;obtain ⟨x0,_,aF⟩:=(zG p1).2 i x hi;exact wx aF);obtain ⟨a1,a2⟩:=zG p1;simp only[BE,if_true] at p4;have sub:∀ {x0:AV} {j:Nat},args[j]? = some x0->∀ s∈x0.refs,s∈AV.refsL args:=fun hx s hs=>zm.2 ⟨_,Ad hx,hs⟩
 -- what is common
 have fin:∀ (A1:Nat->Prop) (σ1:Nat->Option Nat),SRel S A0 O w0 A1 σ1 w aj tm->(∀ (i:Nat) (x:AV),an[i]? = some x->VR0 S A1 w x (vs.getD i undef)) ->
   Calls S.P g vs w fun e w'=>∃ rv A' σ' w1,e=.returned rv∧RebR S w0 w1∧JR S A0 O w1∧SRel S A0 O w1 A' σ' w' aa tm∧Got S A' σ' w' aa v rv:=by
  intro A1 σ1 h1 ha;refine (gF A1 w vs (by omega) ⟨h1.Alt,h1.inv⟩ (h1.jpreA jr) ha).mono fun e w' ⟨rv,he,hk,hj,hr⟩ => ?_;obtain ⟨q1,q2⟩:=h1.reb jr hk.size hj;obtain ⟨A',σ',k1,k2⟩:=imp_sound q1 hk.rebN hr.reb p6;exact ⟨rv,A',σ',_,he,zdQ,q2,k1,k2⟩
 unfold settle at p4;split at p4
 ·rename_i gQ;simp only[Option.some.injEq] at p4;subst p4;by_cases gh:AV.refsL args=[]
  ·exact fin A σ h fun i x hi=>by
    obtain ⟨x0,aC,aF⟩:=a2 i x hi;have nb:x0.refs=[]:=AB.2 fun s hs=>by have:=sub aC s hs;rw[gh] at this;cases this
    exact zdm h (fun _ h=>h) (hg i x0 aC).rel aF fun s b hb hh=>by rw[nb] at hh;simp at hh
  ·have fk:r.plain=true:=gQ.resolve_right gh;rw[imp_plain fk] at p6;simp only[Option.some.injEq,Prod.mk.injEq] at p6;obtain ⟨rfl,rfl⟩:=p6;refine (gF (fun b=>A b∨∃ s,σ s=some b) w vs (by omega) ⟨fun b hb=>hb.elim (h.Alt b) fun ⟨s,hs⟩=>(h.dom s b hs).2.1,h.inv⟩ (h.jpre jr) fun i x hi => ?_).mono fun e w' ⟨rv,he,hk,hj,hr⟩ => ?_
   ·obtain ⟨x0,aC,aF⟩:=a2 i x hi;exact zdm h (fun _ h=>.inl h) (hg i x0 aC).rel aF fun s b hb _=>.inr ⟨s,hb⟩
   ·obtain ⟨q1,q2⟩:=h.reb jr hk.size hj;have gl:=q1.grow hk.rebN (fun _ h=>h) (fun _ h=>.inl h) (fun b hb=>AU (h.Alt b hb) hk.size);have hv:VR0 S A w' r rv:=by
     obtain ⟨β,_,_,hr⟩:=hr;cases r with
     | own z es=>simp[AV.plain] at fk
     | tup rs =>
      obtain ⟨us,rfl,hl,ha⟩:=hr;refine .tup hl fun i x hx => ?_;have cO:=Ae.1 fk x (Ad hx);have l9:=ha i x hx;cases x with
      | own z es=>simp[AV.plain2] at cO
      | _=>exact my l9.2 cO
     | _=>exact zhn hr.2 fk
    exact ⟨rv,A,σ,_,he,zdQ,q2,gl,.of0 hv,fun s hs=>(yW hv s hs).elim⟩
 ·split at p4
  ·rename_i gQ iG;simp only[Option.some.injEq] at p4;subst p4;obtain ⟨A1,σ1,h1,m1,m2⟩:=h.freezeL (AV.refsL args) iG.2.2;have cU:∀ s∈AV.refsL args,zbO st.hp s=true:=fun s hs=>Ae.1 iG.2.1 s hs;exact fin A1 σ1 h1 fun i x hi=>by
    obtain ⟨x0,aC,aF⟩:=a2 i x hi;refine zdm h m1 (hg i x0 aC).rel aF fun s b hb hh => ?_;rcases hh with hh | ⟨s',h1,h2⟩
    ·exact m2 s (sub aC s hh) b (cU s (sub aC s hh)) hb
    ·rw[cU s' (sub aC s' h1)] at h2;cases h2
  ·cases p4
end
def qO (S : Seat) : Prop := ∀ g id, qL g S.fns = some id → ∃ fn, S.P.funcs[g]? = some fn ∧ fn.body.isSome = true ∧ (fn.name == "runtime.NumGoroutine") = false
def zcM {S:Seat} (hS:qO S) {g id:Nat} (hg:qL g S.fns=some id) (args:Array Value) (w:World):(callFunc g args).run S.P w=.ok (.enter g args) w:=by
 obtain ⟨fn,h1,h2,h3⟩:=hS g id hg;cases hb:fn.body with
 | none=>rw[hb] at h2;cases h2
 | some c =>
  have gq : ¬ fn.name = "runtime.NumGoroutine" := by simpa using h3
  simp[callFunc,h1,gq,hb]
end
section
open Go Go.RowKit
section
variable {S:Seat} {A0:Nat->Prop} {O:Hnd} {w0:World} {A:Nat->Prop} {σ:Nat->Option Nat} {w:World} {st aa:ASt} {tm:Array Value} {df:List Deferred} {o:Oper} {v:AV} {d:Nat}
def zhp (h:SRel S A0 O w0 A σ w st tm) {s z:Nat} {es:List (List AV)} {v:Value} (hv:VR S A σ w (.lsl s z 0 es.length) v) (hb:st.hp s=some (.arr z es)):qY S A w (σ s) z es v:=by
 obtain ⟨b0,bb⟩:=h.hp s _ hb;refine ⟨b0, ?_⟩;rcases hv.lsl_inv with ⟨_,q2,q3,q4⟩ | ⟨b,o,cap,cs,el,e1,q0,q1,q2,q3,q4,q5⟩
 ·exact .inl ⟨q3,Az.1 q2,by rw[q4]⟩
 ·rcases bb with ⟨m1,m2⟩ | ⟨b',aK,bW,m1,m2,m3,m4,m5⟩
  ·rw[m1] at q0;cases q0
  ·obtain rfl:b'=b:=Option.some.inj (m1.symm.trans q0);rw[q3] at m2;cases m2;have ho:o=0:=by have:=q2 (.inr rfl);omega
   subst ho;exact .inr ⟨b',cap,cs,el,q0,e1,q1,q5,q3,by simpa using q4,m4,m5⟩
def zcR {hp:Nat->Option Blk} {muts:List Nat} (hm:muts.isEmpty=false):∀ (i:Nat) (args an:List AV),zV hp muts i args=some an->an.length=args.length∧∀ (j:Nat) (x':AV),an[j]? = some x'->∃ x,args[j]? = some x ∧
  ((handed muts (i+j)=true∧∃ s z es,x=.lsl s z 0 (List.length es)∧hp s=some (.arr z es)∧x'=.own z es)∨(handed muts (i+j)=false∧((x.refs=[]∧x'=x)∨(zbz muts=true∧fnOk hp x=true∧zai hp x=some x'))))
 | _,[],an,h=>by
  simp only[zV,Option.some.injEq] at h;subst h;exact ⟨rfl,by simp⟩
 | i,x :: r,an,h=>by
  simp only[zV] at h;split at h
  ·rename_i y ys h1 h2;cases h;obtain ⟨k1,k2⟩:=zcR hm (i+1) r ys h2;refine ⟨by simp[k1],fun j x' hx => ?_⟩;cases j with
   | zero =>
    simp at hx;subst hx;refine ⟨x,rfl, ?_⟩;rw[BD];cases hh:handed muts i with
    | true =>
     rw[if_pos hh] at h1;split at h1
     ·split at h1
      ·split at h1
       ·rename_i hc;obtain ⟨rfl,rfl⟩:=hc;cases h1;exact .inl ⟨rfl,_,_,_,rfl,by assumption,rfl⟩
       ·cases h1
      ·cases h1
     ·cases h1
    | false =>
     rw[hh,hm] at h1;simp only[Ap,if_false] at h1;split at h1
     ·rename_i hr;cases h1;exact .inr ⟨rfl,.inl ⟨by simpa using hr,rfl⟩⟩
     ·split at h1
      ·rename_i hr;obtain ⟨q1,q2⟩:=AF.1 hr;exact .inr ⟨rfl,.inr ⟨q1,q2,h1⟩⟩
      ·cases h1
   | succ j =>
    simp only[AY] at hx ⊢;have:=k2 j x' hx
    rwa [show i+1+j=i+(j+1) by omega] at this
  ·cases h
def zan {muts:List Nat}:∀ (i:Nat) (args:List AV) (j s z o n:Nat),handed muts (i+j)=true->args[j]? = some (.lsl s z o n)->s∈qi muts i args
 | _,[],j,s,z,o,n,_,h=>by simp at h
 | i,x :: r,j,s,z,o,n,hh,h=>by
  simp only[qi,Ah];cases j with
  | zero =>simp at h;subst h;rw[BD] at hh;rw[if_pos hh];exact .inl (by simp)
  | succ j =>refine .inr (zan (i+1) r j s z o n (by rwa [show i+1+j=i+(j+1) by omega]) (by simpa using h))
def zbF:∀ (a b:List Nat),qz (a++b)=true->qz b=true∧∀ s,s∈a->s∈b->False:=by
 intro a b
 induction a with
 | nil=>intro h;exact ⟨h,by simp⟩
 | cons x a ih =>
  intro h;simp only[AD,qz,An,AW,A8,decide_eq_false_iff_not,Ah] at h;obtain ⟨k1,k2⟩:=ih h.2;refine ⟨k1,fun s hs hb => ?_⟩;rcases As.1 hs with rfl | hs
  ·exact h.1 (.inr hb)
  ·exact k2 s hs hb
def zao {muts:List Nat}:∀ (i:Nat) (args:List AV),qz (qi muts i args)=true->∀ (j k s z o n z' o' n':Nat),handed muts (i+j)=true->handed muts (i+k)=true->args[j]? = some (.lsl s z o n)->args[k]? = some (.lsl s z' o' n')->j=k
 | _,[],_,j,k,s,z,o,n,z',o',n',_,_,h,_=>by simp at h
 | i,x :: r,hn,j,k,s,z,o,n,z',o',n',hj,hk,h1,h2=>by
  simp only[qi] at hn;obtain ⟨n1,n2⟩:=zbF _ _ hn;have head:∀ (k z' o' n':Nat),handed muts i=true->x=.lsl s z o n->handed muts (i+(k+1))=true->r[k]? = some (.lsl s z' o' n')->False:=(by rintro k z' o' n' hi rfl hk hr;refine n2 s ?_ (zan (i+1) r k s z' o' n' (by rwa [show i+1+k=i+(k+1) by omega]) hr);rw[if_pos hi];simp);have ll:∀ (k z' o' n':Nat),handed muts i=true->x=.lsl s z' o' n'->handed muts (i+(k+1))=true->r[k]? = some (.lsl s z o n)->False:=(by rintro k z' o' n' hi rfl hk hr;refine n2 s ?_ (zan (i+1) r k s z o n (by rwa [show i+1+k=i+(k+1) by omega]) hr);rw[if_pos hi];simp);cases j with
  | zero =>
   cases k with
   | zero=>rfl
   | succ k =>simp only[Ck,Option.some.injEq,AY] at h1 h2;exact (head k z' o' n' (by simpa using hj) h1 hk h2).elim
  | succ j =>
   cases k with
   | zero =>simp only[Ck,Option.some.injEq,AY] at h1 h2;exact (ll j z' o' n' (by simpa using hk) h2 hj h1).elim
   | succ k =>simp only[AY] at h1 h2;rw[zao (i+1) r n1 j k s z o n z' o' n' (by rwa [show i+1+j=i+(j+1) by omega]) (by rwa [show i+1+k=i+(k+1) by omega]) h1 h2]
def wc {muts:List Nat}:∀ (i:Nat) (args:List AV) (s:Nat),s∈zK muts i args↔∃ j z o n,args[j]? = some (.lsl s z o n)∧handed muts (i+j)=true∧muts.contains (i+j)=false
 | _,[],s=>by simp[zK]
 | i,x :: r,s=>by
  have ih:=wc (muts:=muts) (i+1) r s;simp only[zK,Ah,ih];constructor
  ·rintro (h | ⟨j,z,o,n,h1,h2,h3⟩)
   ·split at h
    ·rename_i hc;simp only[An,AW] at hc;split at h
     ·simp at h;subst h;exact ⟨0,_,_,_,rfl,by simpa using hc.1,by simpa using hc.2⟩
     ·cases h
    ·cases h
   ·exact ⟨j+1,z,o,n,by simpa using h1,by rwa [show i+(j+1)=i+1+j by omega],by rwa [show i+(j+1)=i+1+j by omega]⟩
  ·rintro ⟨j,z,o,n,h1,h2,h3⟩;cases j with
   | zero =>simp at h1;subst h1;rw[BD] at h2 h3;left;rw[if_pos (by simp only[h2,h3];rfl)];simp
   | succ j =>right;exact ⟨j,z,o,n,by simpa using h1,by rwa [show i+1+j=i+(j+1) by omega],by rwa [show i+1+j=i+(j+1) by omega]⟩
def drop_none {st:ASt} {s r:Nat} (h:st.hp s=none):(st.drop r).hp s=none:=by
 simp only[ASt.drop,ASt.setH,upd];split
 ·rfl
 ·simp[ASt.scrub,h]
def drop_arr {st:ASt} {s r:Nat} (ak:s≠r) {z:Nat} {es:List (List AV)} (h:st.hp s=some (.arr z es)):(st.drop r).hp s=some (.arr z es):=by simp only[ASt.drop,ASt.setH,upd,if_neg ak,ASt.scrub,h,AH,fS]
def zfy:∀ (l:List Nat) {st:ASt} {s:Nat},st.hp s=none->(st.dropL l).hp s=none
 | [],_,_,h=>h
 | r :: l,st,s,h=>zfy l (drop_none h)
def zhZ:∀ (l:List Nat) {st:ASt} {s:Nat} {z:Nat} {es:List (List AV)},s ∉ l->st.hp s=some (.arr z es)->(st.dropL l).hp s=some (.arr z es)
 | [],_,_,_,_,_,h=>h
 | r :: l,st,s,z,es,hn,h=>zhZ l (fun hm=>hn (Af _ hm)) (drop_arr (fun e=>hn (by subst e;exact Al)) h)
def zfz:∀ (l:List Nat) {st:ASt} {s:Nat},s∈l->(st.dropL l).hp s=none
 | r :: l,st,s,h=>by
  by_cases e:s=r
  ·subst e;exact zfy l (by simp[ASt.drop,ASt.setH,upd])
  ·exact zfz l ((As.1 h).resolve_left e)
def SRel.dropSL:∀ (l:List Nat) {σ:Nat->Option Nat} {st:ASt},SRel S A0 O w0 A σ w st tm->fN l=true->∃ σ',SRel S A0 O w0 A σ' w (st.dropL l) tm∧(∀ s,s∈l->σ' s=none)∧∀ s,s ∉ l->σ' s=σ s
 | [],σ,st,h,_=>⟨σ,h,by simp,fun _ _=>rfl⟩
 | r :: l,σ,st,h,hl=>by
  simp only[fN,A9,An,AW] at hl;obtain ⟨σ',k1,k2,k3⟩:=SRel.dropSL l (h.dropS hl.1) hl.2;refine ⟨σ',k1,fun s hs => ?_,fun s hs => ?_⟩
  ·by_cases e:s∈l
   ·exact k2 s e
   ·rw[k3 s e,if_pos ((As.1 hs).resolve_right e)]
  ·rw[k3 s (fun e=>hs (Af _ e)),if_neg (fun (e:s=r)=>hs (by subst e;exact Al))]
def zcL {args:List AV}:∀ (outs:zdg) {st al:ASt},wQ args st outs=some al->al.fr=st.fr∧∀ s,(al.hp s=st.hp s∧∀ i es z o n,(i,es)∈outs->args[i]?≠some (.lsl s z o n)) ∨
  ∃ i es z o n z0 aZ,(i,es)∈outs∧args[i]? = some (.lsl s z o n)∧st.hp s=some (.arr z0 aZ)∧al.hp s=some (.arr z0 es)∧es.length=aZ.length
 | [],st,al,h=>by
  simp only[wQ,Option.some.injEq] at h;subst h;exact ⟨rfl,fun s=>.inl ⟨rfl,by simp⟩⟩
 | (i,es) :: r,st,al,h=>by
  simp only[wQ] at h;split at h
  ·rename_i s0 z o n ha;split at h
   ·rename_i z0 aZ hb;split at h
    ·rename_i hl;obtain ⟨k1,k2⟩:=zcL r h;refine ⟨k1,fun s => ?_⟩;by_cases e:s=s0
     ·subst e;have e1:(st.setH s (some (.arr z0 es))).hp s=some (.arr z0 es):=by simp[ASt.setH,upd]
      rcases k2 s with ⟨m1,m2⟩ | ⟨i',aX,z',o',n',z1,eT,m1,m2,m3,m4,m5⟩
      ·exact .inr ⟨i,es,z,o,n,z0,aZ,by simp,ha,hb,m1.trans e1,hl⟩
      ·rw[e1] at m3;cases m3;exact .inr ⟨i',aX,z',o',n',z0,aZ,Af _ m1,m2,hb,m4,by omega⟩
     ·have e1:(st.setH s0 (some (.arr z0 es))).hp s=st.hp s:=by simp[ASt.setH,upd,e]
      rcases k2 s with ⟨m1,m2⟩ | ⟨i',aX,z',o',n',z1,eT,m1,m2,m3,m4,m5⟩
      ·refine .inl ⟨m1.trans e1,fun i' aX z' o' n' hm => ?_⟩;rcases As.1 hm with hm | hm
       ·cases hm;rw[ha];simp;intro e' _ _ _;exact absurd e'.symm e
       ·exact m2 i' aX z' o' n' hm
      ·exact .inr ⟨i',aX,z',o',n',z1,eT,Af _ m1,m2,e1 ▸ m3,m4,m5⟩
    ·cases h
   ·cases h
  ·cases h
def SRel.after (h:SRel S A0 O w0 A σ w st tm) {w':World} {A' B:Nat->Prop} {al:ASt} (hk:KeepO B w w') (kt:∀ b,A b->A' b∧¬ B b) (mb:∀ b,A' b->A b∨w.heap.size<=b∨B b) (hA3:∀ b,A' b->b < w'.heap.size)
  (hA4:∀ s b,σ s=some b->¬ A' b) (hB:∀ b,B b->w0.heap.size<=b∨O b) (dw:al.fr=st.fr)
  (dW:∀ s,(al.hp s=st.hp s∧∀ b,σ s=some b->¬ B b)∨∃ z es aX,st.hp s=some (.arr z es)∧al.hp s=some (.arr z aX)∧aX.length=es.length∧zac S A' σ w' s (.arr z aX)∧zcE σ σ w w' s) :
  SRel S A0 O w0 A' σ w' al tm:=by
 have hA:∀ b,A b->w'.heap[b]? = w.heap[b]?:=fun b hb=>hk.block b (h.Alt b hb) (kt b hb).2;have bP:∀ s,zcE σ σ w w' s:=fun s=>by
  rcases dW s with ⟨_,k2⟩ | ⟨_,_,_,_,_,_,_,k⟩
  ·exact ⟨rfl,fun b cs el hb hc=>⟨cs,by rw[hk.block b (h.dom s b hb).2.1 (k2 b hb)];exact hc,rfl⟩⟩
  ·exact k
 have gM:∀ s,st.hp s≠none->al.hp s≠none:=fun s hs=>by
  rcases dW s with ⟨k1,_⟩ | ⟨_,_,_,_,k,_⟩
  ·rw[k1];exact hs
  ·rw[k];simp
 have nf:∀ s cs,al.hp s=some (.var cs)->st.hp s=some (.var cs):=fun s cs hs=>by
  rcases dW s with ⟨k1,_⟩ | ⟨_,_,_,_,k,_⟩
  ·rw[← k1];exact hs
  ·rw[k] at hs;cases hs
 refine ⟨fun k => ?_,fun s blk hb => ?_,fun k s hs => ?_,fun s cs hs s' ah => ?_,fun s b hs => ?_,h.inj,hA3,fun b hb => ?_, ?_, ?_,h.Olt⟩
 ·rw[dw];exact (h.fr k).mono (fun b hb=>(kt b hb).1) hA fun s _=>bP s
 ·rcases dW s with ⟨k1,k2⟩ | ⟨z,es,aX,_,k2,_,k4,_⟩
  ·exact (h.hp s blk (k1 ▸ hb)).mono (fun b hb=>(kt b hb).1) hA rfl (fun b hb=>hk.block b (h.dom s b hb).2.1 (k2 b hb)) fun s' _=>bP s'
  ·rw[k2] at hb;cases hb;exact k4
 ·rw[dw] at hs;exact gM s (h.dang k s hs)
 ·exact gM s' (h.dangV s cs (nf s cs hs) s' ah)
 ·obtain ⟨d1,d2,d3,d4⟩:=h.dom s b hs;exact ⟨gM s d1,AU d2 hk.size,hA4 s b hs,d4⟩
 ·rcases mb b hb with hb | hb | hb
  ·exact h.Asub b hb
  ·exact .inr (.inl (AL h.keep.size hb))
  ·exact .inr (hB b hb)
 ·refine ⟨hk.os.trans h.keep.os,hk.tape.trans h.keep.tape,hk.output.trans h.keep.output,AL h.keep.size hk.size,fun k cG hO => ?_⟩;rw[hk.block k (AU cG h.keep.size) (fun hb=>(hB k hb).elim (fun e=>by omega) hO)];exact h.keep.block k cG hO
 ·refine h.kp.of fun s _ _=>⟨bP s,fun z es he => ?_⟩;rcases dW s with ⟨k1,_⟩ | ⟨z',eT,aX,k1,k2,k3,_⟩
  ·exact ⟨es,k1.trans he,rfl⟩
  ·rw[k1] at he;cases he;exact ⟨aX,k2,k3⟩
def zjq.same {w1 w':World} {E:Nat->Prop} {args:List AV} {vs:Array Value} {ι:Nat->Option Nat} {outs:zdg} {r:AV} {v:Value} (hs:w1.heap.size=w.heap.size) (hj:∀ i b,ι i=some b->w1.heap[b]? = w.heap[b]?) (h:zjq S A E (zdf S args ι vs w w' outs) w w' r v):zjq S A E (zdf S args ι vs w1 w' outs) w1 w' r v:=by
 obtain ⟨β,h1,h2,h3,h4⟩:=h;have e:jE (fun b=>A b∨E b) β w1 w'=jE (fun b=>A b∨E b) β w w':=by funext b;simp only[jE,hs]
 refine ⟨β,fun i b hb=>by rw[hs];exact h1 i b hb,h2, ?_,by rw[e];exact h4⟩;rw[e];intro i es z aZ hm hx;obtain ⟨k1,k2,k3⟩:=h3 i es z aZ hm hx;exact ⟨k1,k2,fun b cs el hb hc=>k3 b cs el hb (by rw[← hc,hj i b hb])⟩
def zjq.reb {w':World} {E:Nat->Prop} {args:List AV} {vs:Array Value} {ι:Nat->Option Nat} {outs:zdg} {r:AV} {v:Value} (hj:∀ i b,ι i=some b->¬ S.jg b) (h:zjq S A E (zdf S args ι vs w w' outs) w w' r v):zjq S A E (zdf S args ι vs (cA S w w') w' outs) (cA S w w') w' r v :=
 h.same qp fun i b hb=>yT (hj i b hb)
def zeC {muts:List Nat}:∀ (i:Nat) (args:List AV) (j:Nat) (x:AV),args[j]? = some x->handed muts (i+j)=false->∀ s∈x.refs,s∈zbo muts i args
 | _,[],j,x,h,_,_,_=>by simp at h
 | i,y :: r,j,x,h,hh,s,hs=>by
  simp only[zbo,Ah];cases j with
  | zero =>simp at h;subst h;rw[BD] at hh;rw[if_neg (by rw[hh];simp)];exact .inl hs
  | succ j=>exact .inr (zeC (i+1) r j x (by simpa using h) (by rwa [show i+1+j=i+(j+1) by omega]) s hs)
def zit (h:SRel S A0 O w0 A σ w st tm) {B1:Nat->Prop} (hA:∀ b,A b->B1 b) (hV:∀ s b cs,σ s=some b->st.hp s=some (.var cs)->B1 b) {x y:AV} {v:Value} (hv:VR S A σ w x v) (hs:zai st.hp x=some y) (hk:fnOk st.hp x=true):VR0 S B1 w y v:=by
 cases x with
 | fn f caps =>
  simp only[zai] at hs;split at hs
  ·rename_i aK aq;cases hs;obtain ⟨g,vs,rfl,k0,k1,k2⟩:=hv.fn_inv;obtain ⟨d1,d2⟩:=zG aq;refine .fn k0 (by omega) fun j x hj => ?_;obtain ⟨x0,aC,aF⟩:=d2 j x hj;have hc:zgo st.hp x0=true:=Ae.1 hk x0 (Ad aC);have gD:=k2 j x0 aC;by_cases hp:∃ s off,x0=.pv s off
   ·obtain ⟨s,off,rfl⟩:=hp;simp only[zgo] at hc;split at hc
    ·rename_i cs hb;simp only[qE,hb] at aF;split at aF
     ·rename_i cs2 oe;cases aF;obtain ⟨b,e,hσ⟩:=gD.pv_inv;rw[e];obtain ⟨b',us,el,m1,m2,m3,m4⟩:=h.hp _ _ hb;obtain rfl:b'=b:=Option.some.inj (m1.symm.trans hσ);obtain ⟨e1,e2⟩:=zG oe;have:=VR0.ep (S:=S) (A:=B1) (w:=w) (cs:=cs2) (off:=off) (b:=b') (o:=0) (u:=fun j=>us.getD j undef) (hV s b' cs hσ hb) (fun j hj=>by
       have:j < us.size:=by omega
       simp[World.cell?,m2,this,Array.getD]) (fun j x hj=>by
       obtain ⟨x0,aC,aF⟩:=e2 j x hj;have hr:x0.refs=[]:=by simpa using Ae.1 hc x0 (Ad aC)
       exact (wz h hA (m4 j x0 aC) aF fun s' ah _ _=>by rw[hr] at ah;cases ah).1)
      simpa using this
     ·cases aF
    ·cases hc
   ·have hr:x0.refs=[]:=by
     cases x0 with
     | pv s off=>exact absurd ⟨s,off,rfl⟩ hp
     | _=>simpa[zgo] using hc
    exact wy h hA gD aF fun s b hb hh=>by rw[hr] at hh;simp at hh
  ·cases hs
 | _=>simp[fnOk] at hk
def zjq.less {w':World} {B1 E:Nat->Prop} {args:List AV} {vs:Array Value} {ι:Nat->Option Nat} {outs:zdg} {r:AV} {v:Value} (h:zjq S B1 E (zdf S args ι vs w w' outs) w w' r v) (hp:r.plain=true) (ho:(outs.all fun p=>p.2.all fun e=>e.all AV.plain1)=true):zjq S A E (zdf S args ι vs w w' outs) w w' r v:=by
 obtain ⟨β,h1,h2,h3,h4⟩:=h;refine ⟨β,h1,h2,fun i es z aZ hm hx => ?_, ?_⟩
 ·obtain ⟨k1,⟨q0,q1⟩,k3⟩:=h3 i es z aZ hm hx;refine ⟨k1,⟨q0,q1.imp id ?_⟩,k3⟩;rintro ⟨b,cap,us,el,a1,a2,a3,a4,a5,a6,a7,a8⟩;refine ⟨b,cap,us,el,a1,a2,a3,a4,a5,a6,a7,fun i e c x hi hc=>wE (a8 i e c x hi hc) ?_⟩;have:=Ae.1 (Ae.1 ho _ hm) e (Ad hi);exact Ae.1 this x (Ad hc)
 ·cases r with
  | own z es=>simp[AV.plain] at hp
  | tup rs =>
   obtain ⟨us,rfl,hl,ha⟩:=h4;refine ⟨us,rfl,hl,fun i x hx => ?_⟩;have cO:=Ae.1 hp x (Ad hx);have l9:=ha i x hx;cases x with
   | own z es=>simp[AV.plain2] at cO
   | _=>exact ⟨l9.1,my l9.2 cO⟩
  | _=>exact ⟨h4.1,zhn h4.2 hp⟩
def zjc (h:SRel S A0 O w0 A σ w st tm) (jr:JR S A0 O w0) {args:List AV} {vs:Array Value} (hl:vs.size=args.length) (hg:∀ (i:Nat) (x:AV),args[i]? = some x->Got S A σ w st x (vs.getD i undef))
  {g f:Nat} (hf:qL g S.fns=some f) {frz:Bool} {muts:List Nat} (hm:muts.isEmpty=false) (hc:zbs (zh S) frz muts f args d st v aa) :
  Calls S.P g vs w fun e w'=>∃ rv A' σ' w1,e=.returned rv∧RebR S w0 w1∧JR S A0 O w1∧SRel S A0 O w1 A' σ' w' aa tm∧Got S A' σ' w' aa v rv:=by
 obtain ⟨an,r,outs,aj,al,p1,p2,aY,p4,⟨p79,p8,p5⟩,p6⟩:=hc;obtain ⟨p7,p9⟩:=AF.1 p79;obtain ⟨a1,a2⟩:=zcR hm 0 args an p1;simp only[Ba] at a2;rw[hm] at p4;simp only[Ap,if_false,settle,or_true,if_true,Option.some.injEq] at p4;subst p4
 let ι:Nat->Option Nat:=fun i=>if handed muts i=true then (match args[i]? with | some (.lsl s _ _ _)=>σ s | _=>none) else none
 have ι1:∀ i b,ι i=some b->handed muts i=true∧∃ s z o n,args[i]? = some (.lsl s z o n)∧σ s=some b:=by
  intro i b hb;simp only[ι] at hb;split at hb
  ·rename_i hh;split at hb
   ·exact ⟨hh,_,_,_,_,by assumption,hb⟩
   ·cases hb
  ·cases hb
 have ι2:∀ i s z o n,handed muts i=true->args[i]? = some (.lsl s z o n)->ι i=σ s:=(by intro i s z o n hh hi;simp only[ι,if_pos hh,hi]);have same:∀ i j b,ι i=some b->ι j=some b->i=j:=(by intro i j b hi hj;obtain ⟨h1,s,z,o,n,h2,h3⟩:=ι1 i b hi;obtain ⟨iS,s',z',o',n',fL,gq⟩:=ι1 j b hj;obtain rfl:=h.inj s s' b h3 gq;exact zao 0 args p2 i j s z o n z' o' n' (by simpa using h1) (by simpa using iS) h2 fL);have argQ:∀ (B1:Nat->Prop),(∀ b,A b->B1 b)->((zbz muts=true->zbo muts 0 args=[])∨∀ s b cs,σ s=some b->st.hp s=some (.var cs)->B1 b)->∀ (i:Nat) (x:AV),an[i]? = some x->bm S B1 w (ι i) x (vs.getD i undef):=by
  intro B1 lI gp i x hx;obtain ⟨x0,aC,⟨hh,s,z,es,rfl,hb,rfl⟩ | ⟨hh,⟨hr,rfl⟩ | ⟨nk,hfn,pR⟩⟩⟩:=a2 i x hx
  ·rw[ι2 i _ _ _ _ hh aC];exact (zhp h (hg i _ aC).rel hb).mono lI
  ·have:ι i=none:=by simp only[ι,hh];rfl
   rw[this];exact jQ (((hg i _ aC).rel.to0 hr).mono lI fun _ _=>rfl)
  ·have:ι i=none:=by simp only[ι,hh];rfl
   rw[this];refine jQ ?_;rcases gp with gp | gp
   ·refine zdm h lI (hg i _ aC).rel pR fun s b hb hs => ?_;have hr:x0.refs=[]:=AB.2 fun s hs=>(by have:=zeC (muts:=muts) 0 args i x0 aC (by simpa using hh) s hs;rw[gp nk] at this;cases this);rw[hr] at hs;simp at hs
   ·exact zit h lI gp (hg i _ aC).rel pR hfn
 obtain ⟨B1,lI,gp,argR,less⟩:∃ B1:Nat->Prop,(∀ b,A b->B1 b)∧(∀ b,B1 b->A b∨∃ s cs,σ s=some b∧st.hp s=some (.var cs))∧(∀ (i:Nat) (x:AV),an[i]? = some x->bm S B1 w (ι i) x (vs.getD i undef)) ∧
   ∀ w' rv,zjq S B1 (yM ι outs) (zdf S an ι vs w w' outs) w w' r rv->zjq S A (yM ι outs) (zdf S an ι vs w w' outs) w w' r rv:=by
  simp only[zaW,B0,AW,An,B5] at p9;rcases p9 with (p9 | p9) | p9
  ·exact ⟨A,fun _ h=>h,fun _ h=>.inl h,argQ A (fun _ h=>h) (.inl fun e=>by rw[p9] at e;cases e),fun _ _ h=>h⟩
  ·exact ⟨A,fun _ h=>h,fun _ h=>.inl h,argQ A (fun _ h=>h) (.inl fun _=>p9),fun _ _ h=>h⟩
  ·exact ⟨fun b=>A b∨∃ s cs,σ s=some b∧st.hp s=some (.var cs),fun _ h=>.inl h,fun _ h=>h,argQ _ (fun _ h=>.inl h) (.inr fun s b cs h1 h2=>.inr ⟨s,cs,h1,h2⟩),fun _ _ h=>h.less p9.1 p9.2⟩
 have nB:∀ i b,ι i=some b->¬ B1 b:=by
  intro i b hb hB;obtain ⟨hh,s,z,o,n,h2,h3⟩:=ι1 i b hb;rcases gp b hB with hA | ⟨s',cs,h4,h5⟩
  ·exact (h.dom s b h3).2.2.1 hA
  ·obtain rfl:=h.inj s s' b h3 h4;have hi:i < an.length:=by rw[a1];exact (Ac.1 h2).1
   obtain ⟨x0,aC,⟨_,s1,z1,eT,e1,eQ,_⟩ | ⟨hn,_⟩⟩:=a2 i _ (Aa hi)
   ·rw[h2] at aC;cases aC;cases e1;rw[h5] at eQ;cases eQ
   ·rw[hh] at hn;cases hn
 have lb:∀ i es,(i,es)∈outs->muts.contains i=true∧i < 1000:=by
  intro i es hi;have:i∈jG muts:=by rw[← p8];exact Aj.2 ⟨_,hi,rfl⟩
  simp only[jG,BC,B3] at this;exact ⟨by simpa[A8] using this.1,this.2⟩
 have fA:∀ i,muts.contains i=true->i < 1000->∃ es,(i,es)∈outs:=by
  intro i h1 h2;have:i∈outs.map (·.1):=by rw[p8];simp only[jG,BC,B3];exact ⟨by simpa[A8] using h1,h2⟩
  obtain ⟨⟨j,es⟩,h3,rfl⟩:=Aj.1 this;exact ⟨es,h3⟩
 have gS:∀ i,handed muts i=true->i < 1000:=(by intro i hi;simp only[handed,An,B3] at hi;exact hi.1);obtain ⟨σ2,s1,s2,s3⟩:=SRel.dropSL (zK muts 0 args) h p7;obtain ⟨f1,f2⟩:=zcL outs p5;have hσ2:∀ s b,σ2 s=some b->σ s=some b∧s ∉ zK muts 0 args:=by
  intro s b hs;by_cases e:s∈zK muts 0 args
  ·rw[s2 s e] at hs;cases hs
  ·exact ⟨(s3 s e) ▸ hs,e⟩
 have n7:∀ b,yM ι outs b->∃ s,s∈zK muts 0 args∧σ s=some b:=by
  rintro b ⟨i,hi,hn⟩;obtain ⟨h1,s,z,o,n,h2,h3⟩:=ι1 i b hi;refine ⟨s,(wc 0 args s).2 ⟨i,z,o,n,h2,by simpa using h1, ?_⟩,h3⟩;cases hq:muts.contains (0+i) with
  | false=>rfl
  | true =>obtain ⟨es,he⟩:=fA i (by simpa using hq) (gS i h1);exact absurd he (hn es)
 refine (aY g hf B1 w vs ι (by omega) ⟨fun b hb=>(gp b hb).elim (h.Alt b) fun ⟨s,_,h1,_⟩=>(h.dom s b h1).2.1,h.inv⟩ ⟨fun i b hb => ?_,same⟩ ((h.jpre jr).mono (fun b hb=>(gp b hb).imp id fun ⟨s,_,h1,_⟩=>⟨s,h1⟩) (fun _ h=>h) |> fun jp=>⟨jp.jn,jp.lt,jp.na,fun b hb ⟨i,hi⟩=>by obtain ⟨_,s,_,_,_,_,h3⟩:=ι1 i b hi;exact (h.jpre jr).na b hb (.inr ⟨s,h3⟩),jp.ng⟩) argR).mono ?_
 ·obtain ⟨_,s,z,o,n,h2,h3⟩:=ι1 i b hb;obtain ⟨_,d2,d3,d4⟩:=h.dom s b h3;refine ⟨by rw[a1];exact (Ac.1 h2).1,d2,nB i b hb,fun p hp e => ?_⟩;rcases d4 with d4 | d4
  ·have:=h.Olt.2.2.lt p hp;omega
  ·exact h.Olt.2.1 p hp (e ▸ d4)
 rintro e w' ⟨rv,he,cG,hj,iO⟩;obtain ⟨h,kG⟩:=h.reb jr cG.size hj;obtain ⟨s1,_⟩:=s1.reb jr cG.size hj;have hk:=cG.reb;have hjA:∀ i b,ι i=some b->¬ S.jg b:=fun i b hi hb=>(by obtain ⟨_,s,_,_,_,_,h3⟩:=ι1 i b hi;exact (h.jpre kG).na b hb (.inr ⟨s,h3⟩));have iO:=zjq.reb hjA (less _ _ iO);have cE:RebR S w0 (cA S w0 w'):=zdQ;generalize cA S w0 w'=W0 at *;generalize cA S w w'=W at *;obtain ⟨β,hβ,aR,hT,hp⟩:=iO;have pU:∀ s b,σ2 s=some b->¬ yM ι outs b:=(by intro s b hs hE;obtain ⟨s',q1,q2⟩:=n7 b hE;obtain ⟨q3,q4⟩:=hσ2 s b hs;exact q4 (h.inj s s' b q3 q2 ▸ q1));have oG:∀ b,A b->¬ zie ι b:=(by rintro b hb ⟨i,hi⟩;obtain ⟨_,s,z,o,n,_,h3⟩:=ι1 i b hi;exact (h.dom s b h3).2.2.1 hb);have rE:∀ b,zie ι b->W0.heap.size<=b∨O b:=(by rintro b ⟨i,hi⟩;obtain ⟨_,s,z,o,n,_,h3⟩:=ι1 i b hi;exact (h.dom s b h3).2.2.2);have oF:∀ b,yM ι outs b->zie ι b:=fun b ⟨i,hi,_⟩=>⟨i,hi⟩;have hrel:SRel S A0 O W0 (jE (fun b=>A b∨yM ι outs b) β W w') σ2 w' al tm:=by
  refine s1.after hk (fun b hb=>⟨⟨.inl (.inl hb),AU (h.Alt b hb) hk.size,fun i e => ?_⟩,oG b hb⟩) (fun b hb => ?_) (fun b hb=>hb.2.1) (fun s b hs hb => ?_) rE f1 fun s => ?_
  ·rcases (hβ i b e).1 with q | q
   ·have:=h.Alt b hb;omega
   ·exact oG b hb (oF b q)
  ·rcases hb.1 with (q | q) | q
   ·exact .inl q
   ·exact .inr (.inr (oF b q))
   ·exact .inr (.inl q)
  ·rcases hb.1 with (q | q) | q
   ·exact (s1.dom s b hs).2.2.1 q
   ·exact pU s b hs q
   ·have:=(s1.dom s b hs).2.1;omega
  ·rcases f2 s with ⟨q1,q2⟩ | ⟨i,es,z,o,n,z0,aZ,q1,q2,q3,q4,q5⟩
   ·refine .inl ⟨q1,fun b hb ⟨i,hi⟩ => ?_⟩;obtain ⟨q3,q4⟩:=hσ2 s b hb;obtain ⟨q5,s',z,o,n,q6,q7⟩:=ι1 i b hi;obtain rfl:=h.inj s s' b q3 q7;cases hq:muts.contains i with
    | true =>obtain ⟨es,he⟩:=fA i hq (gS i q5);exact q2 i es z o n he q6
    | false=>exact q4 ((wc 0 args s).2 ⟨i,z,o,n,q6,by simpa using q5,by simpa using hq⟩)
   ·obtain ⟨m1,m2⟩:=lb i es q1;have hh:handed muts i=true:=by simp only[handed,m1,Da,CM,B3];exact m2
    have aO:i < an.length:=by rw[a1];exact (Ac.1 q2).1
    have hx:=Aa aO;obtain ⟨x0,aC,⟨_,s',z',aX,e1,aA,e2⟩ | ⟨rk,_⟩⟩:=a2 i _ hx
    ·rw[q2] at aC;cases aC;cases e1;have ak:s ∉ zK muts 0 args:=fun gj=>(by obtain ⟨j,z1,o1,n1,j1,j2,j3⟩:=(wc 0 args s).1 gj;have:=zao 0 args p2 i j s _ _ _ z1 o1 n1 (by simpa using hh) j2 q2 j1;subst this;simp only[Ba] at j3;rw[m1] at j3;cases j3);have hd:=zhZ (zK muts 0 args) ak aA;rw[q3] at hd;cases hd;obtain ⟨t1,t2,t3⟩:=hT i es _ aZ q1 (by rw[hx,e2]);have hι:ι i=σ2 s:=(ι2 i _ _ _ _ hh q2).trans (s3 s ak).symm;refine .inr ⟨_,aZ,es,q3,q4,t1, ?_,rfl,fun b cs el hb aq=>t3 b cs el (hι.trans hb) aq⟩;exact (ym t2 hι.symm).2
    ·rw[hh] at rk;cases rk
 have hβ':∀ i b,β i=some b->b < w'.heap.size∧¬ jE (fun b=>A b∨yM ι outs b) β W w' b∧(W0.heap.size<=b∨O b):=by
  intro i b hb;refine ⟨(hβ i b hb).2,fun hh=>hh.2.2 i hb, ?_⟩;rcases (hβ i b hb).1 with q | q
  ·exact .inl (AL h.keep.size q)
  ·exact rE b (oF b q)
 have fE:∀ s b k,σ2 s=some b->β k≠some b:=by
  intro s b k hs hb;rcases (hβ k b hb).1 with q | q
  ·have:=(s1.dom s b hs).2.1;omega
  ·exact pU s b hs q
 -- the answer
 cases heq:zK muts 0 args with
 | nil =>rw[heq] at p6;simp only[impE] at p6;obtain ⟨σ',k⟩:=mv hrel hβ' aR fE hp p6;exact ⟨rv,_,σ',_,he,cE,kG,k⟩
 | cons s0 rest =>
  rw[heq] at p6
  have put:∀ (z:Nat) (es:List (List AV)) (u:Value) (i:Nat),al.hp s0=none->qY S (jE (fun b=>A b∨yM ι outs b) β W w') w' (β i) z es u ->
    SRel S A0 O W0 (jE (fun b=>A b∨yM ι outs b) β W w') (upd σ2 s0 (β i)) w' (al.setH s0 (some (.arr z es))) tm∧VR S (jE (fun b=>A b∨yM ι outs b) β W w') (upd σ2 s0 (β i)) w' (.lsl s0 z 0 es.length) u:=by
   intro z es u i hn ho;obtain ⟨v1,v2⟩:=ym ho (σ':=upd σ2 s0 (β i)) (qG _ _ _);exact ⟨hrel.addSite hn (b?:=β i) (blk:=.arr z es) rfl v2 fun b hb=>⟨(hβ' i b hb).1,(hβ' i b hb).2.1,(hβ' i b hb).2.2,fun s hs=>fE s b i hs hb⟩,v1⟩
  have plain:ziL r=true->(v,aa)=(r,al)->∃ rv A' σ' w1,e=.returned rv∧RebR S w0 w1∧JR S A0 O w1∧SRel S A0 O w1 A' σ' w' aa tm∧Got S A' σ' w' aa v rv:=(by intro cF e1;cases e1;have p6':=zbR cF d aa;obtain ⟨σ',k⟩:=mv hrel hβ' aR fE hp p6';exact ⟨rv,_,σ',_,he,cE,kG,k⟩);unfold impE at p6;split at p6
  ·rename_i hq;cases hq
  ·rename_i gB pF hq;cases hq;split at p6
   ·rename_i z es;split at p6
    ·rename_i hn;simp only[Option.some.injEq,Prod.mk.injEq] at p6;obtain ⟨rfl,rfl⟩:=p6;obtain ⟨k1,k2⟩:=put z es rv 0 hn hp;exact ⟨rv,_,_,_,he,cE,kG,k1,k2,fun s hs=>by rw[AV.refs,Ai] at hs;subst hs;simp[ASt.setH,upd]⟩
    ·cases p6
   ·rename_i z es kB;split at p6
    ·rename_i hn;split at p6
     ·rename_i hall;simp only[Option.some.injEq,Prod.mk.injEq] at p6;obtain ⟨rfl,rfl⟩:=p6;obtain ⟨us,rfl,hlen,fo⟩:=hp;obtain ⟨k1,k2⟩:=put z es (us.getD 0 undef) 0 hn (fo 0 _ rfl);have rest:∀ (i:Nat) (x:AV),kB[i]? = some x->VR0 S (jE (fun b=>A b∨yM ι outs b) β W w') w' x (us.getD (i+1) undef):=fun i x hx =>
       (zaY (fo (i+1) x (by simpa using hx)) (by simpa using Ae.1 hall x (Ad hx))).2
      refine ⟨_,_,_,_,he,cE,kG,k1,.tup (by simpa using hlen) fun i x hx => ?_,fun s hs => ?_⟩
      ·cases i with
       | zero=>simp at hx;subst hx;exact k2
       | succ i=>exact .of0 (rest i x (by simpa using hx))
      ·rw[AV.refs,zm] at hs;obtain ⟨x,hx,hs⟩:=hs;rcases As.1 hx with rfl | hx
       ·rw[AV.refs,Ai] at hs;subst hs;simp[ASt.setH,upd]
       ·obtain ⟨i,hi⟩:=AA.1 hx;exact (yW (rest i x hi) s hs).elim
     ·cases p6
    ·cases p6
   ·split at p6
    ·rename_i cF;exact plain cF (Option.some.inj p6).symm
    ·cases p6
end
end
end Ab
