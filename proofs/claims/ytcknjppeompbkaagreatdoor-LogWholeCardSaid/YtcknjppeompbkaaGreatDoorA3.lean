import Derived.Test.YtcknjppeompbkaaGreatDoorA2
import Derived.Orders
import Derived.Below
set_option linter.all false
namespace Ab
open Go
section
open Go Go.RowKit
section
variable {S:Seat} {A0:Nat->Prop} {O:Hnd} {w0:World} {A:Nat->Prop} {σ:Nat->Option Nat} {w:World} {st aa:ASt} {tm:Array Value} {df:List Deferred} {o:Oper} {v:AV} {d:Nat}
def zde {P:Program} {t:TypeId} {f:Nat} {fl:Field} (h:zdf P t f=some fl):∃ fs,P.underlying t=some (.struct fs)∧fs[f]? = some fl:=by
 unfold zdf at h;split at h
 ·rename_i fs hu;exact ⟨fs,hu,h⟩
 ·cases h
def op_binOp (h:SRel S A0 O w0 A σ w st tm) {op:BinOp} {t u:TypeId} {x y:Operand} (ho:o.op=.binOp op t x y u) {a:AOp} (hc:cBin S op t x y=some a) (ha:aop a d st=some (v,aa)):yS S A0 O w0 w tm df o v aa:=by
 unfold cBin at hc;split at hc
 ·rename_i k x' y' hu hx hy;have:a=.bin .int op x' y':=by cases op<;>simp at hc<;>exact hc.symm
  subst this;exact op_bin h ho (fun e=>by cases e) hx hy ha
 ·rename_i x' y' hu hx hy;have:a=.bin .str op x' y':=by cases op<;>simp at hc<;>exact hc.symm
  subst this;exact op_bin h ho (fun e=>by cases e) hx hy ha
 ·rename_i x' y' hu hx hy;have:a=.bin .bool op x' y':=by cases op<;>simp at hc<;>exact hc.symm
  subst this;exact op_bin h ho (fun _=>hu) hx hy ha
 ·rename_i fs x' y' hu hx hy;split at hc
  ·rename_i hg;split at hc
   ·rename_i l _ hl;cases hc;exact op_eqa (neg:=false) h (by simpa using ho) hu hg.1 hg.2 (by assumption) hx hy ha
   ·rename_i l _ hl;cases hc;exact op_eqa (neg:=true) h (by simpa using ho) hu hg.1 hg.2 (by assumption) hx hy ha
   ·cases hc
  ·cases hc
 ·rename_i ms x' y' hu hx hy;split at hc
  ·split at hc
   ·cases hc;rename_i hn;exact zeA (neg:=false) (z:=x) h (by simpa using ho) hu (.inl ⟨rfl,hn⟩) hx ha
   ·split at hc
    ·cases hc;rename_i hn;exact zeA (neg:=false) (z:=y) h (by simpa using ho) hu (.inr ⟨rfl,hn⟩) hy ha
    ·cases hc
  ·split at hc
   ·cases hc;rename_i hn;exact zeA (neg:=true) (z:=x) h (by simpa using ho) hu (.inl ⟨rfl,hn⟩) hx ha
   ·split at hc
    ·cases hc;rename_i hn;exact zeA (neg:=true) (z:=y) h (by simpa using ho) hu (.inr ⟨rfl,hn⟩) hy ha
    ·cases hc
  ·cases hc
 ·rename_i e x' y' hu hx hy;split at hc
  ·cases hc;exact op_eqnS (neg:=false) h (by simpa using ho) hu hx ha
  ·cases hc;exact op_eqnS (neg:=true) h (by simpa using ho) hu hx ha
  ·cases hc
 ·cases hc
def op_conv (h:SRel S A0 O w0 A σ w st tm) {s t:TypeId} {x:Operand} (ho:o.op=.convert s t x) {a:AOp} (hc:zhC S s t x=some a) (ha:aop a d st=some (v,aa)):yS S A0 O w0 w tm df o v aa:=by
 unfold zhC at hc;split at hc
 ·rename_i k0 k x' hs ht hx;cases hc;exact op_cvi h ho hs ht hx ha
 ·rename_i e x' hs ht hx;split at hc
  ·rename_i he hz;cases hc;exact op_cvs (i:=default) h ho hs ht he hx ha
  ·cases hc
 ·cases hc
def ziX (h:SRel S A0 O w0 A σ w st tm) {c:Call} (ho:o.op=.call c) {a:AOp} (hc:zdL S c o.type=some a) (ha:aop a d st=some (v,aa)):yS S A0 O w0 w tm df o v aa:=by
 obtain ⟨callee,args,tys⟩:=c;unfold zdL at hc;split at hc
 ·split at hc
  ·have hc:=Option.some.inj hc;split at hc<;>(cases hc;simp[aop] at ha)
  ·cases hc
 ·split at hc
  ·cases hc;simp[aop] at ha
  ·cases hc
 ·rename_i bm;simp only at bm;subst bm;split at hc
  ·rename_i x t hx ht;have hargs:args=#[x]:=by simpa using congrArg List.toArray hx
   have ga:tys=#[t]:=by simpa using congrArg List.toArray ht
   subst hargs;subst ga;split at hc
   ·rename_i hu;simp only[Ag] at hc;obtain ⟨x',bg,rfl⟩:=hc;exact op_lenS h ho hu bg ha
   ·rename_i e hu;simp only[Ag] at hc;obtain ⟨x',bg,rfl⟩:=hc;exact op_len h ho hu bg ha
   ·cases hc
  ·cases hc
 ·rename_i bm;simp only at bm;subst bm;split at hc
  ·rename_i x y t u hx ht;have hargs:args=#[x,y]:=by simpa using congrArg List.toArray hx
   have ga:tys=#[t,u]:=by simpa using congrArg List.toArray ht
   subst hargs;subst ga;split at hc
   ·rename_i e z zs x' y' he hz bg eE;split at hc
    ·rename_i htu;subst htu;cases hc;obtain ⟨hu,i,hi,aG,h0,h1,h2⟩:=jV he;rw[he] at hz;obtain ⟨i',zv,k1,k2,k3,k4,k5,k6⟩:=jU hz;simp only[A5] at k1;obtain rfl:i'=i:=Option.some.inj (k1.symm.trans hi);simp only at aG;subst aG;exact op_app h ho hu hi k2 k4 h2 bg eE ha
    ·cases hc
   ·cases hc
  ·cases hc
 ·rename_i bm;simp only at bm;subst bm;split at hc
  ·rename_i x y hx;have hargs:args=#[x,y]:=by simpa using congrArg List.toArray hx
   subst hargs;split at hc
   ·rename_i x' y' bg eE;cases hc;exact op_max h ho bg eE ha
   ·cases hc
  ·cases hc
 ·cases hc
def op_all (h:SRel S A0 O w0 A σ w st tm) {a:AOp} (hc:cOp S o.op o.type=some a) (ha:aop a d st=some (v,aa)):yS S A0 O w0 w tm df o v aa:=by
 unfold cOp at hc;split at hc
 ·rename_i x ho;simp only[Ag] at hc;obtain ⟨x',hx,rfl⟩:=hc;exact op_mov h (.inl ho) hx ha
 ·rename_i x ho;simp only[Ag] at hc;obtain ⟨x',hx,rfl⟩:=hc;exact op_mov h (.inr ho) hx ha
 ·rename_i e x ho;simp only[Ag] at hc;obtain ⟨x',hx,rfl⟩:=hc;exact op_box h ho hx ha
 ·rename_i e ho;simp only[Ag] at hc;obtain ⟨z,hz,rfl⟩:=hc;exact op_alloc h ho hz ha
 ·rename_i t ps ho;split at hc
  ·rename_i fs zero l hu hz hl;split at hc
   ·rename_i szs hs;cases hc;exact op_build h ho hu hz hl hs ha
   ·cases hc
  ·cases hc
 ·rename_i t len ps ho;split at hc
  ·rename_i e z zero l he hz hl;split at hc
   ·rename_i hlen;cases hc;obtain ⟨hu,i,hi,aG,h0,h1,h2⟩:=jV he;rw[he] at hz;obtain ⟨i',zv,k1,k2,k3,k4,k5,k6⟩:=jU hz;simp only[A5] at k1;obtain rfl:i'=i:=Option.some.inj (k1.symm.trans hi);simp only at aG;subst aG;subst k3;exact op_bslice h ho hu hi k2 k4 h0 h1 k6 hl hlen ha
   ·cases hc
  ·cases hc
 ·rename_i t x ho;split at hc
  ·rename_i n x' hn hx;cases hc;exact op_load h ho hn hx ha
  ·cases hc
 ·rename_i t a' x ho;split at hc
  ·rename_i z a2 x2 hz h1 h2;cases hc;exact op_store h ho hz h1 h2 ha
  ·cases hc
 ·rename_i x ho;simp only[Ag] at hc;obtain ⟨x',hx,rfl⟩:=hc;exact op_chk h ho hx ha
 ·rename_i op t x y u ho;exact op_binOp h ho hc ha
 ·rename_i op t x ho;split at hc
  ·simp only[Ag] at hc;obtain ⟨x',hx,rfl⟩:=hc;exact op_un h ho hx ha
  ·simp only[Ag] at hc;obtain ⟨x',hx,rfl⟩:=hc;exact op_un h ho hx ha
  ·cases hc
 ·rename_i s t x ho;exact op_conv h ho hc ha
 ·rename_i t x ho;split at hc
  ·rename_i k x' i hk hx hu;cases hc;exact op_ifc h ho hx hk (.inl ⟨i,hu⟩) ha
  ·rename_i k x' fs hk hx hu;cases hc;exact op_ifc h ho hx hk (.inr ⟨fs,hu⟩) ha
  ·cases hc
 ·rename_i f first caps ho
  split at hc
  ·rename_i hf;split at hc
   ·rename_i id l hid hl;cases hc;exact op_mkfn h ho hf hid hl ha
   ·cases hc
  ·cases hc
 ·rename_i t l c ho;split at hc
  ·rename_i e z zero l' c' he hz hl dV;cases hc;obtain ⟨hu,i,hi,aG,h0,h1,h2⟩:=jV he;rw[he] at hz;obtain ⟨i',zv,k1,k2,k3,k4,k5,k6⟩:=jU hz;simp only[A5] at k1;obtain rfl:i'=i:=Option.some.inj (k1.symm.trans hi);simp only at aG;subst aG;subst k3;exact op_mksl h ho hu hi k2 k4 h0 h2 k6 hl dV ha
  ·cases hc
 ·rename_i t x lo hi ho;split at hc
  ·rename_i x' eu aQ hu hx eR mD;cases hc;exact op_slcS h ho hu hx eR mD ha
  ·rename_i e0 x' eu aQ hu hx eR mD;split at hc
   ·rename_i e z he;cases hc;obtain ⟨iJ,i,hi2,aG,h0,h1,h2⟩:=jV he;simp only at aG;subst aG;exact op_slc h ho iJ hi2 h0 hx eR mD ha
   ·cases hc
  ·cases hc
 ·rename_i t x f ho;split at hc
  ·rename_i fl x' hf hx;split at hc
   ·rename_i n hn;split at hc
    ·rename_i h0;cases hc;obtain ⟨fs,hu,kV⟩:=zde hf;exact op_fa h ho hu kV hn h0 hx ha
    ·cases hc
   ·cases hc
  ·cases hc
 ·rename_i t x f ho;split at hc
  ·rename_i fl x' hf hx;split at hc
   ·rename_i n hn;cases hc;obtain ⟨fs,hu,kV⟩:=zde hf;exact op_fld h ho hu kV hn hx ha
   ·cases hc
  ·cases hc
 ·rename_i t x i ho;split at hc
  ·rename_i e z x' i' he hx hi;cases hc;obtain ⟨hu,inf,my,aG,h0,h1,h2⟩:=jV he;simp only at aG;subst aG;exact op_ia h ho hu my hx hi ha
  ·cases hc
 ·rename_i t x i ho;split at hc
  ·rename_i x' i' hu hx hi;cases hc;exact op_ix h ho hu hx hi ha
  ·cases hc
 ·rename_i x i ho;simp only[Ag] at hc;obtain ⟨x',hx,rfl⟩:=hc;exact op_ext h ho hx ha
 ·rename_i c a' b ho;split at hc
  ·rename_i c' a2 b2 h1 h2 h3;cases hc;exact op_pick h ho h1 h2 h3 ha
  ·cases hc
 ·rename_i c ho;exact ziX h ho hc ha
 ·cases hc
end
end
section
open Go Go.RowKit
def exOf:AExit->Exit
 | .norm=>.normal
 | .exit id=>.exit id
 | .ret=>.ret
def Post (S:Seat) (A0:Nat->Prop) (O:Hnd) (w0:World) (nt:Nat) (e:AExit) (aa:ASt):Exit->Act->World->Prop :=
 fun ex a w'=>ex=exOf e∧a.defers=[]∧a.tmps.size=nt∧∃ A' σ',zaE S A0 O w0 A' σ' w' aa a.tmps
section
variable {S:Seat} {A0:Nat->Prop} {O:Hnd} {w0:World} {A:Nat->Prop} {σ:Nat->Option Nat} {w:World} {st aa:ASt} {tm:Array Value} {df:List Deferred} {o:Oper} {v:AV} {d:Nat} {nt:Nat}
def zjg {ops:Array Oper} {draw:Bool} {o:Oper} {a:AOper} (h:fe S nt ops draw o=some a):(∃ dK,cOp S o.op o.type=some dK∧(a.op=dK∨∃ lt,a.op=noFrz S lt dK))∧a.dst=o.dst∧(∀ d,o.dst=some d->d < nt∧d < 1000) ∧
  (match o.guard with | none=>a.grd=none | some (j,want)=>∃ t,(ops[j]?).bind (·.dst)=some t∧a.grd=some (t,want)):=by
 unfold fe at h;split at h
 ·rename_i op g h1 h2;split at h
  ·rename_i hd;cases h;refine ⟨⟨op,h1,by cases draw;exact .inl rfl;exact .inr ⟨_,rfl⟩⟩,rfl,fun d mQ => ?_, ?_⟩
   ·rw[mQ] at hd;simpa[dstB] using hd
   ·split at h2
    ·rename_i hg;cases h2;rw[hg]
    ·rename_i j want hg;rw[hg];simp only[Ag] at h2;obtain ⟨t,h3,rfl⟩:=h2;exact ⟨t,h3,rfl⟩
  ·cases h
 ·cases h
def wt:AOp->Bool
 | .call _ _ _ _ | .calld _ _ _ | .callo _ _ _=>true
 | _=>false
def isB:AOp->Bool
 | .bslice _ _ _ _ _=>true
 | _=>false
def cBin_nb {op:BinOp} {t:TypeId} {x y:Operand} {a:AOp} (h:cBin S op t x y=some a):isB a=false:=by
 unfold cBin at h
 repeat' split at h
 all_goals (first | (cases h;rfl) | cases h)
def cConv_nb {s t:TypeId} {x:Operand} {a:AOp} (h:zhC S s t x=some a):isB a=false:=by
 unfold zhC at h
 repeat' split at h
 all_goals (first | (cases h;rfl) | cases h)
def map_nb {α:Type} {x:Option α} {f:α->AOp} {a:AOp} (h:x.map f=some a) (hf:∀ y,isB (f y)=false):isB a=false:=by simp only[Ag] at h;obtain ⟨y,_,rfl⟩:=h;exact hf y
def cCall_nb {c:Call} {ty:TypeId} {a:AOp} (h:zdL S c ty=some a):isB a=false:=by
 unfold zdL at h
 repeat' split at h
 all_goals (first | (cases h;rfl) | cases h | exact map_nb h fun _=>rfl)
def cBin_nc {op:BinOp} {t:TypeId} {x y:Operand} {a:AOp} (h:cBin S op t x y=some a):wt a=false:=by
 unfold cBin at h
 repeat' split at h
 all_goals (first | (cases h;rfl) | cases h)
def cConv_nc {s t:TypeId} {x:Operand} {a:AOp} (h:zhC S s t x=some a):wt a=false:=by
 unfold zhC at h
 repeat' split at h
 all_goals (first | (cases h;rfl) | cases h)
def map_nc {α:Type} {x:Option α} {f:α->AOp} {a:AOp} (h:x.map f=some a) (hf:∀ y,wt (f y)=false):wt a=false:=by simp only[Ag] at h;obtain ⟨y,_,rfl⟩:=h;exact hf y
def lz {o:Op} {ty:TypeId} {a:AOp} (h:cOp S o ty=some a) (ha:wt a=true):∃ c,o=.call c∧zdL S c ty=some a:=by
 have no:wt a=false->∃ c,o=.call c∧zdL S c ty=some a:=fun h=>by rw[ha] at h;cases h
 unfold cOp at h;split at h
 case h_23=>exact ⟨_,rfl,h⟩
 all_goals apply no
 all_goals first
  | exact cBin_nc h
  | exact cConv_nc h
  | exact map_nc h fun _=>rfl
  | ((repeat' split at h)<;>(first | (cases h;rfl) | cases h | exact map_nc h fun _=>rfl))
def op_lit' (h:SRel S A0 O w0 A σ w st tm) {frz:Bool} {z:Nat} {zero:List Value} {len:Nat} {ps:List (Nat×AOpd)} (hc:cOp S o.op o.type=some (.bslice frz z zero len ps)) (ha:aop (.lit z zero len ps) d st=some (v,aa)):yS S A0 O w0 w tm df o v aa:=by
 generalize cx:o.op=op at hc;have no:∀ {x:Option AOp},x=some (.bslice frz z zero len ps)->(∀ a,x=some a->isB a=false)->False:=fun h1 h2=>(by have:=h2 _ h1;simp[isB] at this);unfold cOp at hc;split at hc
 case h_6 t len' ps' =>
  split at hc
  ·rename_i e z' oe l he hz hl;split at hc
   ·rename_i hlen;cases hc;obtain ⟨hu,i,hi,aG,h0,h1,h2⟩:=jV he;rw[he] at hz;obtain ⟨i',zv,k1,k2,k3,k4,k5,k6⟩:=jU hz;simp only[A5] at k1;obtain rfl:i'=i:=Option.some.inj (k1.symm.trans hi);simp only at aG;subst aG;subst k3;exact op_lit h cx hu hi k2 k4 h0 h1 k6 hl hlen ha
   ·cases hc
  ·cases hc
 all_goals exfalso
 all_goals first
  | exact no hc fun a ha=>cBin_nb ha
  | exact no hc fun a ha=>cConv_nb ha
  | exact no hc fun a ha=>map_nb ha fun _=>rfl
  | exact no hc fun a ha=>cCall_nb ha
  | ((repeat' split at hc)<;>(first | (cases hc;done) | exact no hc fun a ha=>map_nb ha fun _=>rfl))
def Same (a b:AOp):Prop:=b=a∨(∃ frz muts f xs m,a=.call frz muts f xs∧b=.call frz m f xs)∨∃ frz z zero len ps,a=.bslice frz z zero len ps∧b=.lit z zero len ps
def step_call (hS:qd S) (hJ:zaE S A0 O w0 A σ w st tm) {a a':AOp} (hc:cOp S o.op o.type=some a) (hm:Same a a') (hs:qR (za S) false a' d st v aa) {next:Act->World->Prop} {Q:Exit->Act->World->Prop}
  (hn:∀ w' A' σ' rv,zaE S A0 O w0 A' σ' w' aa tm->(Got S A' σ' w' aa v rv∨(v=.bot∧rv=undef))->next (Act.put ⟨tm,df⟩ o.dst rv) w'):o.wp S.P ⟨tm,df⟩ w next Q:=by
 obtain ⟨w1,bu,jr,h⟩:=hJ
 -- a call of function g
 have call:∀ (g f:Nat) (frz:Bool) (muts:List Nat) (args:List AV) (vs:Array Value),qh g S.fns=some f->(execOp (Act.eval ⟨tm,df⟩) o).run S.P w=.ok (.enter g vs) w->vs.size=args.length->(∀ (i:Nat) (x:AV),args[i]? = some x->Got S A σ w st x (vs.getD i undef)) ->
   yP (za S) frz muts f args d st v aa->o.wp S.P ⟨tm,df⟩ w next Q:=by
  intro g f frz muts args vs hf hr hl hg pb;unfold Oper.wp;rw[hr,Oper.upon_enter];have eV:Calls S.P g vs w fun e w'=>∃ rv A' σ' w2,e=.returned rv∧RebR S w1 w2∧JR S A0 O w2∧SRel S A0 O w2 A' σ' w' aa tm∧Got S A' σ' w' aa v rv:=by
   cases muts with
   | nil=>exact oz h jr hl hg hf pb
   | cons m ms=>exact zhA h jr hl hg hf rfl pb
  refine eV.mono fun e w' ⟨rv,A',σ',w2,he,k0,j2,k1,k2⟩ => ?_;subst he;exact hn w' A' σ' rv ⟨w2,bu.trans k0,j2,k1⟩ (.inl k2)
 have other:aop a d st=some (v,aa)->o.wp S.P ⟨tm,df⟩ w next Q:=by
  intro ha;obtain ⟨n,w',A',σ',hr,k1,k2⟩:=op_all (df:=df) h hc ha;unfold Oper.wp;rw[hr];rcases k2 with ⟨rv,rfl,k2⟩ | ⟨rfl,k2⟩
  ·exact hn w' A' σ' rv ⟨w1,bu,jr,k1⟩ (.inl k2)
  ·exact hn w' A' σ' undef ⟨w1,bu,jr,k1⟩ (.inr ⟨k2,rfl⟩)
 have cI:(∀ frz muts f xs,a≠.call frz muts f xs)->(∀ frz z zero len ps,a≠.bslice frz z zero len ps)->a'=a:=fun bC mh=>by
  rcases hm with e | ⟨frz,muts,f,xs,m,e,_⟩ | ⟨frz,z,zero,len,ps,e,_⟩
  ·exact e
  ·exact absurd e (bC frz muts f xs)
  ·exact absurd e (mh frz z zero len ps)
 cases a with
 | call frz muts f as =>
  obtain ⟨m',rfl⟩:∃ m',a'=.call frz m' f as:=by
   rcases hm with e | ⟨_,_,_,_,m,e,e2⟩ | ⟨_,_,_,_,_,e,_⟩
   ·exact ⟨muts,e⟩
   ·cases e;exact ⟨m,e2⟩
   ·cases e
  simp only[qR,Am,false_and,if_false] at hs;obtain ⟨c,ho,hc⟩:=lz hc rfl;obtain ⟨callee,args,tys⟩:=c;unfold zdL at hc;split at hc
  ·rename_i g bm;simp only at bm;subst bm;split at hc
   ·rename_i id xs hid b9;have hc:=Option.some.inj hc;split at hc<;>cases hc;obtain ⟨e1,e2⟩:=h.evs (df:=df) b9;refine call g f _ _ (as.map st.ev) (args.map (Act.eval ⟨tm,df⟩)) hid ?_ (by simp at e1 ⊢;omega) (fun i x hx => ?_) hs
    ·have:=wC hS hid (args.map (Act.eval ⟨tm,df⟩)) w;have e0:Act.eval ⟨tm,df⟩ (.func g)=.func (.func g) #[] #[]:=rfl;simp[execOp,ho,resolve,Deferred.ofValue,invoke,e0,this]
    ·have:=e2 i x hx;simpa[Aj,List.getD] using this
   ·cases hc
  all_goals (repeat' (split at hc))<;>(first | cases hc | (simp at hc;done))
 | callo k f as =>
  obtain rfl:=cI (by simp) (by simp);obtain ⟨c,ho,hc⟩:=lz hc rfl;obtain ⟨callee,args,tys⟩:=c;unfold zdL at hc;split at hc
  ·rename_i g bm;simp only at bm;subst bm;split at hc
   ·rename_i id xs hid b9;have hc:=Option.some.inj hc;obtain ⟨e1,e2⟩:=h.evs (df:=df) b9;have hr:(execOp (Act.eval ⟨tm,df⟩) o).run S.P w=.ok (.enter g (args.map (Act.eval ⟨tm,df⟩))) w:=(by have:=wC hS hid (args.map (Act.eval ⟨tm,df⟩)) w;have e0:Act.eval ⟨tm,df⟩ (.func g)=.func (.func g) #[] #[]:=rfl;simp[execOp,ho,resolve,Deferred.ofValue,invoke,e0,this]);have hl:(args.map (Act.eval ⟨tm,df⟩)).size=(xs.map st.ev).length:=by simp at e1 ⊢;omega
    have hg:∀ (i:Nat) (x:AV),(xs.map st.ev)[i]? = some x->Got S A σ w st x ((args.map (Act.eval ⟨tm,df⟩)).getD i undef):=fun i x hx=>(by have:=e2 i x hx;simpa[Aj,List.getD] using this);have fin:(Calls S.P g (args.map (Act.eval ⟨tm,df⟩)) w fun e w'=>∃ rv A' σ' w2,e=.returned rv∧RebR S w1 w2∧JR S A0 O w2∧SRel S A0 O w2 A' σ' w' aa tm∧Got S A' σ' w' aa v rv)->o.wp S.P ⟨tm,df⟩ w next Q:=(by intro eV;unfold Oper.wp;rw[hr,Oper.upon_enter];refine eV.mono fun e w' ⟨rv,A',σ',w2,he,k0,j2,k1,k2⟩ => ?_;subst he;exact hn w' A' σ' rv ⟨w2,bu.trans k0,j2,k1⟩ (.inl k2))
    split at hc<;>cases hc
    ·simp only[qR] at hs;exact fin (zhy h jr hl hg hid hs)
    ·simp only[qR] at hs;rcases hs with hs | hs
     ·exact fin (oz h jr hl hg hid hs)
     ·exact fin (zhz h jr hl hg hid hs)
   ·cases hc
  all_goals (repeat' (split at hc))<;>(first | cases hc | (simp at hc;done))
 | calld frz x as =>
  obtain rfl:=cI (by simp) (by simp);simp only[qR,Am,if_false] at hs;obtain ⟨c,ho,hc⟩:=lz hc rfl;obtain ⟨callee,args,tys⟩:=c;unfold zdL at hc;split at hc
  ·(repeat' (split at hc))<;>(first | cases hc | (simp at hc;done))
  ·rename_i t bm;simp only at bm;subst bm;split at hc
   ·rename_i xs b9;cases hc;split at hs
    ·rename_i f caps kY;obtain ⟨e1,e2⟩:=h.evs (df:=df) b9;have gt:=h.ev (df:=df) (x:=.tmp t) (a:=.t t) rfl;rw[kY] at gt;obtain ⟨g,us,hv,hid,u1,u2⟩:=gt.rel.fn_inv;refine call g f _ _ (as.map st.ev++caps) (args.map (Act.eval ⟨tm,df⟩)++us) hid ?_ (by simp at e1 ⊢;omega) (fun i x hx => ?_) hs
     ·have:=wC hS hid (args.map (Act.eval ⟨tm,df⟩)++us) w;simp[execOp,ho,resolve,Deferred.ofValue,invoke,hv,this]
     ·have aG:(args.map (Act.eval ⟨tm,df⟩)).size=(as.map st.ev).length:=by simp at e1 ⊢;omega
      by_cases aq:i < (as.map st.ev).length
      ·rw[AM aq] at hx;have:=e2 i x hx;have e3:(args.map (Act.eval ⟨tm,df⟩)++us).getD i undef=(args.toList.map (Act.eval ⟨tm,df⟩)).getD i undef:=(by rw[Aj,Bq (by omega)];simp[List.getD]);rw[e3];exact this
      ·rw[A6 (by omega)] at hx;have e3:(args.map (Act.eval ⟨tm,df⟩)++us).getD i undef=us.getD (i - (as.map st.ev).length) undef:=(by rw[Aj,Array.getElem?_append_right (by omega),aG,Aj]);rw[e3];exact ⟨u2 _ x hx,fun s ae=>gt.dang s (by rw[AV.refs];exact zd.2 ⟨x,Ae hx,ae⟩)⟩
    ·exact hs.elim
   ·cases hc
  all_goals (repeat' (split at hc))<;>(first | cases hc | (simp at hc;done))
 | bslice frz z zero len ps =>
  rcases hm with rfl | ⟨_,_,_,_,_,e,_⟩ | ⟨_,_,_,_,_,e,e2⟩
  ·exact other hs
  ·cases e
  ·cases e;subst e2;obtain ⟨n,w',A',σ',hr,k1,k2⟩:=op_lit' (df:=df) h hc hs;unfold Oper.wp;rw[hr];rcases k2 with ⟨rv,rfl,k2⟩ | ⟨rfl,k2⟩
   ·exact hn w' A' σ' rv ⟨w1,bu,jr,k1⟩ (.inl k2)
   ·exact hn w' A' σ' undef ⟨w1,bu,jr,k1⟩ (.inr ⟨k2,rfl⟩)
 | _=>obtain rfl:=cI (by simp) (by simp);exact other hs
end
end
section
open Go Go.RowKit
section
variable {S:Seat} {A0:Nat->Prop} {O:Hnd} {w0:World} {A:Nat->Prop} {σ:Nat->Option Nat} {w:World} {st aa:ASt} {tm:Array Value} {df:List Deferred} {o:Oper} {v:AV} {d:Nat} {nt:Nat}
def Match (S:Seat) (nt:Nat) (draw:Bool) (ops:Array Oper):List Nat->List AOper->Prop
 | [],[]=>True
 | i :: L,a :: la=>(∃ o,ops[i]? = some o∧fe S nt ops draw o=some a)∧Match S nt draw ops L la
 | _,_=>False
def SRel.putO (h:SRel S A0 O w0 A σ w st tm) (hn:tm.size=nt) {dst:Option Nat} (hd:∀ d,dst=some d->d < nt) {x:AV} {rv:Value} (hg:Got S A σ w st x rv) :
  SRel S A0 O w0 A σ w (st.putO dst x) (Act.put ⟨tm,df⟩ dst rv).tmps∧(Act.put ⟨tm,df⟩ dst rv).tmps.size=nt∧(Act.put ⟨tm,df⟩ dst rv).defers=df:=by
 cases dst with
 | none=>exact ⟨h,hn,rfl⟩
 | some d=>exact ⟨h.put (by rw[hn];exact hd d rfl) hg,by simp[Act.put,hn],rfl⟩
def qR.noFrz {M:Rets} {q:Bool} {op:AOp} {d:Nat} {st aa:ASt} {v:AV} {lt:Bool} (h:qR M q (noFrz S lt op) d st v aa):∃ fk,Same op fk∧qR M q fk d st v aa:=by
 cases op with
 | bslice frz z zero len ps =>
  cases lt with
  | true=>exact ⟨_,.inr (.inr ⟨frz,z,zero,len,ps,rfl,rfl⟩),h⟩
  | false =>
  have h':aop (.bslice false z zero len ps) d st=some (v,aa):=h;refine ⟨_,.inl rfl, ?_⟩;show aop (.bslice frz z zero len ps) d st=some (v,aa);simp only[aop] at h' ⊢;split at h'
  ·rename_i ps' e1 e2;split at h'
   ·rename_i hc;rw[if_pos (.inr (hc.resolve_left (by simp)))];exact h'
   ·cases h'
  ·cases h'
 | call frz muts f xs =>
  cases muts with
  | nil =>
   simp only[Ab.noFrz] at h;split at h
   ·exact ⟨_,.inr (.inl ⟨frz,[],f,xs,[3000],rfl,rfl⟩),h⟩
   ·exact ⟨_,.inl rfl,h⟩
  | cons m ms=>exact ⟨_,.inl rfl,h⟩
 | _=>exact ⟨_,.inl rfl,h⟩
def OpR.noFrz {M:Rets} {q:Bool} {a:AOper} {dK:AOp} {st aa:ASt} (cx:a.op=dK∨∃ lt,a.op=Ab.noFrz S lt dK) (h:OpR M q a st aa):∃ fk,Same dK fk∧OpR M q { a with op:=fk } st aa:=by
 rcases h with ⟨h1,v,st1,h2,h3⟩ | h
 ·rcases cx with e | ⟨lt,e⟩
  ·rw[e] at h2;exact ⟨dK,.inl rfl,.inl ⟨h1,v,st1,h2,h3⟩⟩
  ·rw[e] at h2;obtain ⟨fk,k1,k2⟩:=h2.noFrz;exact ⟨fk,k1,.inl ⟨h1,v,st1,k2,h3⟩⟩
 ·exact ⟨dK,.inl rfl,.inr h⟩
def zg1 (hS:qd S) (h:zaE S A0 O w0 A σ w st tm) (hn:tm.size=nt) {ops:Array Oper} {i:Nat} {a:AOper} {dK:AOp} (ho:ops[i]? = some o) (c1:cOp S o.op o.type=some dK) (lZ:Same dK a.op) (c2:a.dst=o.dst) (c3:∀ d,o.dst=some d->d < nt∧d < 1000) (c4:match o.guard with | none=>a.grd=none | some (j,want)=>∃ t,(ops[j]?).bind (·.dst)=some t∧a.grd=some (t,want)) (hr:OpR (za S) false a st aa)
  {Q:Exit->Act->World->Prop} {K:Act->World->Prop} (hk:∀ w' A' σ' b8,zaE S A0 O w0 A' σ' w' aa b8->b8.size=nt->K ⟨b8,df⟩ w'):wpOp S.P ops Q i K ⟨tm,df⟩ w:=by
 have fH:∀ b,bP st a.grd=some b->Region.wanted o (yielded ops tm)=b:=by
  intro b hb;unfold Region.wanted;cases hg:o.guard with
  | none =>rw[hg] at c4;simp only at c4;rw[c4] at hb;simp only[bP,Option.some.injEq] at hb;exact hb
  | some p =>
   obtain ⟨j,want⟩:=p;rw[hg] at c4;obtain ⟨t,h1,h2⟩:=c4;rw[h2] at hb;simp only[bP] at hb;split at hb
   ·rename_i c dV;simp only[Option.some.injEq] at hb;obtain ⟨_,_,_,h⟩:=h;have hv:=h.fr t;rw[dV] at hv;have e:=hv.v_inv;have e2:tm[t]? = some (.bool c):=by
     rw[Aj] at e;cases hq:tm[t]? with
     | none=>rw[hq] at e;simp[undef] at e
     | some x=>rw[hq] at e;simp at e;rw[e]
    simp only[yielded,h1,Option.bind_some,e2];rw[← hb];cases c<;>cases want<;>rfl
   ·rename_i y dV;simp only[Option.some.injEq] at hb;obtain ⟨_,_,_,h⟩:=h;have hv:=h.fr t;rw[dV] at hv;have e:=hv.v_inv;have e2:∀ c,tm[t]?≠some (.bool c):=(by intro c hq;rw[Aj,hq] at e;cases e);have e3:yielded ops tm j=none:=by
     unfold yielded;rw[h1];split
     ·rename_i c hq;exact absurd hq (e2 c)
     ·rfl
    simp only[e3,← hb];rfl
   ·cases hb
 simp only[wpOp,ho];rcases hr with ⟨hg,v,st1,hs,rfl⟩ | ⟨hg,rfl⟩
 ·rw[if_pos (fH true hg)];left;refine step_call hS h c1 lZ hs fun w' A' σ' rv k1 k2 => ?_;have mF:Got S A' σ' w' st1 v rv:=by
   rcases k2 with k2 | ⟨rfl,rfl⟩
   ·exact k2
   ·exact ⟨.of0 (.bot _),by simp[AV.refs]⟩
  obtain ⟨w2,r2,j2,k1⟩:=k1;obtain ⟨q1,q2,q3⟩:=k1.putO (df:=df) hn (dst:=o.dst) (fun d hd=>(c3 d hd).1) mF;rw[c2] at hk;have:=hk w' A' σ' _ ⟨w2,r2,j2,q1⟩ q2;rw[show (Act.put ⟨tm,df⟩ o.dst rv)=⟨(Act.put ⟨tm,df⟩ o.dst rv).tmps,df⟩ from by cases o.dst<;>rfl];exact this
 ·rw[if_neg (by rw[fH false hg];simp)];obtain ⟨w2,r2,j2,h⟩:=h;obtain ⟨q1,q2,q3⟩:=h.putO (df:=df) hn (dst:=o.dst) (fun d hd=>(c3 d hd).1) (x:=ud) (rv:=undef) ⟨.of0 (.v _),by simp[AV.refs,ud]⟩;rw[c2] at hk;have:=hk w A σ _ ⟨w2,r2,j2,q1⟩ q2;rw[show (Act.put ⟨tm,df⟩ o.dst undef)=⟨(Act.put ⟨tm,df⟩ o.dst undef).tmps,df⟩ from by cases o.dst<;>rfl];exact this
def zdX (hS:qd S) (h:zaE S A0 O w0 A σ w st tm) (hn:tm.size=nt) {ops:Array Oper} {draw:Bool} {i:Nat} {a:AOper} (ho:ops[i]? = some o) (hc:fe S nt ops draw o=some a) (hr:OpR (za S) false a st aa)
  {Q:Exit->Act->World->Prop} {K:Act->World->Prop} (hk:∀ w' A' σ' b8,zaE S A0 O w0 A' σ' w' aa b8->b8.size=nt->K ⟨b8,df⟩ w'):wpOp S.P ops Q i K ⟨tm,df⟩ w:=by
 obtain ⟨⟨dK,c1,cx⟩,c2,c3,c4⟩:=zjg hc;obtain ⟨fk,k1,k2⟩:=OpR.noFrz cx hr;exact zg1 (a:={ a with op:=fk }) hS h hn ho c1 k1 c2 c3 c4 k2 hk
def ops_sound (hS:qd S) {ops:Array Oper} {draw:Bool} {Q:Exit->Act->World->Prop} (L:List Nat) (la:List AOper) {st:ASt} {A:Nat->Prop} {σ:Nat->Option Nat} {w:World} {tm:Array Value} (hm:Match S nt draw ops L la) (hr:OpsR (za S) false la st aa) (h:zaE S A0 O w0 A σ w st tm) (hn:tm.size=nt)
  (hq:∀ w' A' σ' b8,zaE S A0 O w0 A' σ' w' aa b8->b8.size=nt->Q .normal ⟨b8,df⟩ w'):wpOps S.P ops Q L ⟨tm,df⟩ w:=by
 induction hr generalizing L A σ w tm with
 | nil st =>
  cases L with
  | nil=>exact hq w A σ tm h hn
  | cons i L=>exact hm.elim
 | cv gZ hcv hr ih =>obtain ⟨w2,r2,j2,h⟩:=h;obtain ⟨A',σ',h'⟩:=hcv A0 O w2 A σ w tm h;exact ih L hm ⟨w2,r2,j2,h'⟩ hn hq
 | cons h1 h2 ih =>
  cases L with
  | nil=>exact hm.elim
  | cons i L =>obtain ⟨⟨o,ho,hc⟩,gr⟩:=hm;rw[wpOps_cons];exact zdX hS h hn ho hc h1 fun w' A' σ' b8 k1 k2=>ih L gr k1 k2 hq
def zcH {ops:Array Oper} {draw:Bool}:∀ (n k:Nat) (la:List AOper),k+n=ops.size->zb (fe S nt ops draw) (ops.toList.drop k)=some la->Match S nt draw ops (List.range' k n) la
 | 0,k,la,hk,h=>by
  rw[BM (by simp;omega)] at h;simp only[zb,Option.some.injEq] at h;subst h;simp[List.range',Match]
 | n+1,k,la,hk,h=>by
  have aq:k < ops.toList.length:=by simp;omega
  rw[BD aq] at h;simp only[zb] at h;split at h
  ·rename_i a la' ha mu;cases h;rw[List.range'_succ];exact ⟨⟨ops[k]'(by simpa using aq),by simp,by simpa using ha⟩,zcH n (k+1) la' (by omega) mu⟩
  ·cases h
def zR:ACode->Bool
 | .region _ d => !d
 | .seq a b=>zR a && zR b
 | .cond _ a b=>zR a && zR b
 | .block _ b=>zR b
 | .loop b=>zR b
 | _=>true
def LoopWp (P:Program) (c:Code) (Q:Exit->Act->World->Prop) (a:Act) (w:World):Prop :=
 ∀ (b:Frame) (k:List Item) (cs:List Frame),∃ e a' w',Q e a' w'∧Arrives P (lone (b.at a (.code c :: .inLoop c :: k)) cs w) b k cs e a' w'
def Stm (P:Program) (c:Code) (Q:Exit->Act->World->Prop) (a:Act) (w:World):Prop :=
 match c with
 | .loop b=>LoopWp P b Q a w
 | c=>c.wp P Q a w
def Stm.wp {P:Program} {c:Code} {Q:Exit->Act->World->Prop} {a:Act} {w:World} (h:Stm P c Q a w):c.wp P Q a w:=by
 cases c with
 | loop b =>intro fr k cs;obtain ⟨e,a',w',hq,cC⟩:=h fr k cs;exact ⟨e,a',w',hq,.of_steps (.one step_loop) cC⟩
 | _=>exact h
def jd (S:Seat):Prop:=∀ (A0:Nat->Prop) (O:Hnd) (w0:World) (nt:Nat) (ops:Array Oper) (la:List AOper) (id:Nat) (st aa:ASt) (A:Nat->Prop) (σ:Nat->Option Nat) (w:World) (tm:Array Value) (Q:Exit->Act->World->Prop),
 zb (fe S nt ops true) ops.toList=some la->la.all dstOk=true->S.P.follows .mixedOrders=true->zeT la=true->OpsR (za S) true (ordered la) st aa->zaE S A0 O w0 A σ w st tm->tm.size=nt ->
 (∀ w' A' σ' b8,zaE S A0 O w0 A' σ' w' aa b8->b8.size=nt->Q .normal ⟨b8,[]⟩ w')->(Code.region id ops true).wp S.P Q ⟨tm,[]⟩ w
def Stm.mono {P:Program} {c:Code} {Q Q':Exit->Act->World->Prop} {a:Act} {w:World} (h:Stm P c Q a w) (hq:∀ e a w,Q e a w->Q' e a w):Stm P c Q' a w:=by
 cases c with
 | loop b =>intro fr k cs;obtain ⟨e,a',w',h1,h2⟩:=h fr k cs;exact ⟨e,a',w',hq _ _ _ h1,h2⟩
 | _=>exact wp_mono h hq
def zac (hS:qd S) {c:ACode} {e:AExit} (hex:Ex (za S) c st e aa) (hD:zR c=true∨jd S):∀ {rc:Code},ya S nt rc=some c->∀ {A:Nat->Prop} {σ:Nat->Option Nat} {w:World} {tm:Array Value},
  zaE S A0 O w0 A σ w st tm->tm.size=nt->Stm S.P rc (Post S A0 O w0 nt e aa) ⟨tm,[]⟩ w:=by
 induction hex with
 | skip st =>
  intro rc hc A σ w tm h hn;cases rc<;>simp[ya] at hc
  case skip=>exact wp_skip ⟨rfl,rfl,hn,A,σ,h⟩
  case region=>split at hc<;>simp at hc
  all_goals (first | (split at hc<;>simp at hc;done) | skip)
 | @region ops dr st aa hr =>
  intro rc hc A σ w tm h hn;cases rc<;>simp only[ya,Ag,reduceCtorEq,and_false,exists_false,Option.some.injEq] at hc
  case region id rops rdr =>
   split at hc
   ·rename_i l' hl;split at hc
    ·rename_i bT;cases hc;cases dr with
     | false =>refine wp_region ?_;have hm:=zcH (S:=S) (nt:=nt) (ops:=rops) (draw:=false) rops.size 0 l' (by simp) (by simpa using hl);rw[List.range_eq_range'];simp only[Am,if_false] at hr;exact ops_sound hS _ _ hm hr h hn fun w' A' σ' b8 k1 k2=>⟨rfl,rfl,k2,A',σ',k1⟩
     | true =>
      simp only[if_true] at hr;rcases hD with hD | hD
      ·simp[zR] at hD
      ·exact hD A0 O w0 nt rops l' id _ _ A σ w tm _ hl bT.1 (bT.2.resolve_left (by simp)).1 (bT.2.resolve_left (by simp)).2 hr h hn fun w' A' σ' b8 k1 k2=>⟨rfl,rfl,k2,A',σ',k1⟩
    ·cases hc
   ·cases hc
  all_goals (split at hc<;>simp at hc)
 | @seqN a b st st1 ai e h1 h2 cD gU =>
  intro rc hc A σ w tm h hn;cases rc<;>simp only[ya,Ag,reduceCtorEq,and_false,exists_false,Option.some.injEq] at hc
  case seq x y =>
   split at hc
   ·rename_i a' b' ha hb;cases hc;have dx:zR a=true∨jd S:=hD.imp (fun h=>by simp[zR] at h;exact h.1) id;have hD2:zR b=true∨jd S:=hD.imp (fun h=>by simp[zR] at h;exact h.2) id;refine wp_seq (wp_mono (Stm.wp (cD dx ha h hn)) fun ex a' w' ⟨q1,q2,q3,A',σ',q4⟩ => ?_);obtain ⟨b8,df'⟩:=a';simp only at q2 q3 q4;subst q1;subst q2;exact Stm.wp (gU hD2 hb q4 q3)
   ·cases hc
  all_goals (split at hc<;>(try split at hc)<;>simp at hc)
 | @seqE a b st st1 e h1 ah cD =>
  intro rc hc A σ w tm h hn;cases rc<;>simp only[ya,Ag,reduceCtorEq,and_false,exists_false,Option.some.injEq] at hc
  case seq x y =>
   split at hc
   ·rename_i a' b' ha hb;cases hc;have dx:zR a=true∨jd S:=hD.imp (fun h=>by simp[zR] at h;exact h.1) id;refine wp_seq (wp_mono (Stm.wp (cD dx ha h hn)) fun ex a' w' hq => ?_);obtain ⟨q1,q2⟩:=hq;subst q1;cases e with
    | norm=>exact absurd rfl ah
    | exit i=>exact ⟨rfl,q2⟩
    | ret=>exact ⟨rfl,q2⟩
   ·cases hc
  all_goals (split at hc<;>(try split at hc)<;>simp at hc)
 | @cond c a b st aa e t aw h1 cD =>
  intro rc hc A σ w tm h hn;cases rc<;>simp only[ya,Ag,reduceCtorEq,and_false,exists_false,Option.some.injEq] at hc
  case cond x y z =>
   split at hc
   ·rename_i c' a' b' hx ha hb;cases hc;obtain ⟨_,_,_,h0⟩:=id h;have g:=h0.ev (df:=[]) hx;rw[aw] at g;have hv:=g.rel.v_inv;cases t with
    | true =>have dx:zR a=true∨jd S:=hD.imp (fun h=>by simp[zR] at h;exact h.1) id;exact wp_cond_true hv (Stm.wp (cD dx ha h hn))
    | false =>have dx:zR b=true∨jd S:=hD.imp (fun h=>by simp[zR] at h;exact h.2) id;exact wp_cond_false hv (Stm.wp (cD dx hb h hn))
   ·cases hc
  all_goals (split at hc<;>(try split at hc)<;>simp at hc)
 | @blockX i b st aa h1 cD =>
  intro rc hc A σ w tm h hn;cases rc<;>simp only[ya,Ag,reduceCtorEq,and_false,exists_false,Option.some.injEq] at hc
  case block i' x =>
   obtain ⟨b',hb,he⟩:=hc;cases he;have dx:zR b=true∨jd S:=hD.imp (fun h=>by simpa[zR] using h) id;refine wp_block (wp_mono (Stm.wp (cD dx hb h hn)) fun ex a' w' ⟨q1,q2⟩ => ?_);subst q1;simp only[exOf,Exit.inBlock,if_true];exact ⟨rfl,q2⟩
  all_goals (split at hc<;>(try split at hc)<;>simp at hc)
 | @blockO i b st aa e h1 ah cD =>
  intro rc hc A σ w tm h hn;cases rc<;>simp only[ya,Ag,reduceCtorEq,and_false,exists_false,Option.some.injEq] at hc
  case block i' x =>
   obtain ⟨b',hb,he⟩:=hc;cases he;have dx:zR b=true∨jd S:=hD.imp (fun h=>by simpa[zR] using h) id;refine wp_block (wp_mono (Stm.wp (cD dx hb h hn)) fun ex a' w' ⟨q1,q2⟩ => ?_);subst q1;cases e with
   | norm=>exact ⟨rfl,q2⟩
   | exit j =>have:j≠i:=fun e=>ah (by rw[e]);simp only[exOf,Exit.inBlock,if_neg this];exact ⟨rfl,q2⟩
   | ret=>exact ⟨rfl,q2⟩
  all_goals (split at hc<;>(try split at hc)<;>simp at hc)
 | @loopN b st st1 ai e h1 h2 cD gU =>
  intro rc hc A σ w tm h hn;cases rc<;>simp only[ya,Ag,reduceCtorEq,and_false,exists_false,Option.some.injEq] at hc
  case loop x =>
   obtain ⟨b',hb,he⟩:=hc;cases he;have dx:zR b=true∨jd S:=hD.imp (fun h=>by simpa[zR] using h) id;intro fr k cs;obtain ⟨ex,a',w',⟨q1,q2,q3,A',σ',q4⟩,cC⟩:=Stm.wp (cD dx hb h hn) fr (.inLoop x :: k) cs;obtain ⟨b8,df'⟩:=a';simp only at q2 q3 q4;subst q1;subst q2;have hl:Stm S.P (.loop x) _ ⟨b8,[]⟩ w':=gU hD (rc:=.loop x) (by simp[ya,hb]) q4 q3;obtain ⟨e2,a2,w2,bY,kl⟩:=hl fr k cs;exact ⟨e2,a2,w2,bY,.of_steps (Steps.trans cC (.one step_inLoop)) kl⟩
  all_goals (split at hc<;>(try split at hc)<;>simp at hc)
 | @loopE b st st1 e h1 ah cD =>
  intro rc hc A σ w tm h hn;cases rc<;>simp only[ya,Ag,reduceCtorEq,and_false,exists_false,Option.some.injEq] at hc
  case loop x =>
   obtain ⟨b',hb,he⟩:=hc;cases he;have dx:zR b=true∨jd S:=hD.imp (fun h=>by simpa[zR] using h) id;intro fr k cs;obtain ⟨ex,a',w',hq,cC⟩:=Stm.wp (cD dx hb h hn) fr (.inLoop x :: k) cs;obtain ⟨q1,q2⟩:=hq;subst q1;cases e with
   | norm=>exact absurd rfl ah
   | exit j=>exact ⟨_,a',w',⟨rfl,q2⟩,.pass (x:=.inLoop x) rfl (fun _ _=>.inl (by simp[exOf])) cC⟩
   | ret=>exact ⟨_,a',w',⟨rfl,q2⟩,.pass (x:=.inLoop x) rfl (fun _ _=>.inl (by simp[exOf])) cC⟩
  all_goals (split at hc<;>(try split at hc)<;>simp at hc)
 | exit id st =>
  intro rc hc A σ w tm h hn;cases rc<;>simp only[ya,Ag,reduceCtorEq,and_false,exists_false,Option.some.injEq] at hc
  case exit i=>cases hc;exact wp_exit ⟨rfl,rfl,hn,A,σ,h⟩
  all_goals (split at hc<;>(try split at hc)<;>simp at hc)
 | ret st =>
  intro rc hc A σ w tm h hn;cases rc<;>simp only[ya,Ag,reduceCtorEq,and_false,exists_false,Option.some.injEq] at hc
  case ret=>exact wp_ret ⟨rfl,rfl,hn,A,σ,h⟩
  all_goals (split at hc<;>(try split at hc)<;>simp at hc)
 | cv hcv h1 cD =>intro rc hc A σ w tm h hn;obtain ⟨w2,r2,j2,h⟩:=h;obtain ⟨A',σ',h'⟩:=hcv A0 O w2 A σ w tm h;exact cD hD hc ⟨w2,r2,j2,h'⟩ hn
 | cvR h1 hcv cD =>intro rc hc A σ w tm h hn;refine (cD hD hc h hn).mono ?_;rintro ex a w' ⟨q1,q2,q3,A',σ',w2,r2,j2,q4⟩;obtain ⟨A2,σ2,h'⟩:=hcv A0 O w2 A' σ' w' _ q4;exact ⟨q1,q2,q3,A2,σ2,w2,r2,j2,h'⟩
end
end
section
open Go Go.RowKit
section
variable {S:Seat} {A0:Nat->Prop} {O:Hnd} {w0:World} {A:Nat->Prop} {σ:Nat->Option Nat} {w w':World} {st aa:ASt} {tm:Array Value}
def ziN (h:SRel S A0 O w0 A σ w st tm) {x:AV} {rv:Value} (g:Got S A σ w st x rv) {t:TypeId} {n:Option Nat} (hs:cAgg S.P t=some n) {cs:List AV} {off:Nat} (he:Ab.cellsAt st.hp x=some (cs,off)) {y:AV} (hy:zbg cs off n=some y) :
  ∃ a v,rv=.pointer (some a)∧(loadVar t a).run S.P w=.ok v w∧Got S A σ w st y v:=by
 obtain ⟨b,o0,u,e,h2,h3⟩:=h.cellsAt g he;cases n with
 | none =>
  simp only[zbg] at hy;split at hy
  ·rename_i a hx;split at hy
   ·cases hy;have hi:off < cs.length:=(Aa.1 hx).1;exact ⟨_,u off,e,by simp[loadVar,zdh hs,h2 off hi],h3 _ _ hx⟩
   ·cases hy
  ·cases hy
 | some n =>
  obtain ⟨k1,i,k2,rfl,k3⟩:=zdg hs w;simp only[zbg] at hy;split at hy
  ·rename_i hle;cases hy;have hl:=run_loadCells (P:=S.P) w ⟨b,o0+off,none⟩ i.size (fun j=>u (off+j)) (fun j hj=>by rw[Addr.add_lit,Bv];exact h2 (off+j) (by omega));refine ⟨_,.agg ((List.range i.size).map fun j=>u (off+j)).toArray,e,by simp[loadVar,k1,Go.sizeOf,typeInfo,k2,hl],.agg (by simp;omega) fun j a hj => ?_,fun s hs => ?_⟩
   ·have bF:j < i.size:=by have:=(Aa.1 hj).1;simp at this;omega
    rw[AQ bF,Bu] at hj;have:=(h3 _ _ hj).rel;simpa[Array.getD,bF] using this
   ·rw[AV.refs] at hs;have ae:=zet hs;rw[zd] at ae;obtain ⟨a,ha,iM⟩:=ae;obtain ⟨j,hj⟩:=Ay.1 ha;exact (h3 j a hj).dang s iM
  ·cases hy
def zfC (tm:Array Value):ResultVar->Sem Value
 | .tmp t=>pure (tm.getD t undef)
 | .cell a t=>do loadVar t (← asAddr (tm.getD a undef))
def resVal_ok (h:SRel S A0 O w0 A σ w st tm) {r:ResultVar} {a:ARes} (hc:cRes S.P r=some a) {y:AV} (hy:q8 st a=some y):∃ v,(zfC tm r).run S.P w=.ok v w∧Got S A σ w st y v:=by
 cases r with
 | tmp t =>simp only[cRes,Option.some.injEq] at hc;subst hc;simp only[q8,Option.some.injEq] at hy;subst hy;exact ⟨_,by simp[zfC],h.fr t,h.dang t⟩
 | cell t ty =>
  simp only[cRes,Ag] at hc;obtain ⟨n,hn,rfl⟩:=hc;simp only[q8] at hy;split at hy
  ·rename_i cs off he;obtain ⟨a,v,e,hr,hg⟩:=ziN h ⟨h.fr t,h.dang t⟩ hn he hy;exact ⟨v,by simp[zfC,e,asAddr,hr],hg⟩
  ·cases hy
def resL_ok (h:SRel S A0 O w0 A σ w st tm):∀ (l:List ResultVar) (res:List ARes) (ys:List AV),zb (cRes S.P) l=some res->zb (q8 st) res=some ys ->
  ∃ vs:List Value,(l.mapM (zfC tm)).run S.P w=.ok vs w∧ys.length=vs.length∧∀ (i:Nat) (y:AV),ys[i]? = some y->Got S A σ w st y (vs.getD i undef)
 | [],res,ys,h1,h2=>by
  simp only[zb,Option.some.injEq] at h1;subst h1;simp only[zb,Option.some.injEq] at h2;subst h2;exact ⟨[],by simp,rfl,by simp⟩
 | r :: l,res,ys,h1,h2=>by
  simp only[zb] at h1;split at h1
  ·rename_i a lJ ha aE;simp only[Option.some.injEq] at h1;subst h1;simp only[zb] at h2;split at h2
   ·rename_i y bH hy bX;simp only[Option.some.injEq] at h2;subst h2;obtain ⟨v,k1,k2⟩:=resVal_ok h ha hy;obtain ⟨vs,q1,q2,q3⟩:=resL_ok h l lJ bH aE bX;refine ⟨v :: vs,by simp[List.mapM_cons,k1,q1],by simp[q2],fun i x hx => ?_⟩;cases i with
    | zero=>simp at hx;subst hx;exact k2
    | succ i=>simp at hx;simpa using q3 i x hx
   ·cases h2
  ·cases h1
def wZ (h:SRel S A0 O w0 A σ w st tm) {fn:Func} {res:List ARes} {ys:List AV} (h1:zb (cRes S.P) fn.results.toList=some res) (h2:zb (q8 st) res=some ys) :
  ∃ vs:Array Value,(results fn tm).run S.P w=.ok (if h:vs.size=1 then vs[0] else .tuple vs) w∧ys.length=vs.size∧∀ (i:Nat) (y:AV),ys[i]? = some y->Got S A σ w st y (vs.getD i undef):=by
 obtain ⟨vs,k1,k2,k3⟩:=resL_ok h _ _ _ h1 h2;refine ⟨vs.toArray, ?_,by simpa using k2,fun i y hy=>by simpa[Aj] using k3 i y hy⟩
 have e2:results fn tm=(do let vs ← fn.results.mapM (zfC tm);pure (if h:vs.size=1 then vs[0] else .tuple vs)) :=
  congrArg (fun (f:ResultVar->Sem Value)=>(do let vs ← fn.results.mapM f;pure (if h:vs.size=1 then vs[0] else Value.tuple vs):Sem Value)) (funext fun x=>by cases x<;>rfl)
 rw[e2,Array.mapM_eq_mapM_toList];simp[k1]
def noHnd:Hnd:=⟨fun _=>False,fun _=>none,fun _=>none⟩
def retR_of {β:Nat->Option Nat} (hβ:∀ i b,β i=some b->w.heap.size<=b∧b < w'.heap.size) (aA:∀ i j b,β i=some b->β j=some b->i=j) {ys:List AV} {vs:Array Value} (hl:ys.length=vs.size)
  (ha:∀ (i:Nat) (x:AV),ys[i]? = some x->yA S (zI A β w w') w' (β i) x (vs.getD i undef)):zgD S A w w' (zH ys) (if h:vs.size=1 then vs[0] else .tuple vs):=by
 by_cases h1:vs.size=1
 ·rw[dif_pos h1];have e:vs[0]=vs.getD 0 undef:=by simp[Array.getD,h1]
  match ys,hl,ha with
  | [x],_,ha =>
   have hx:=ha 0 x rfl;rw[← e] at hx;rw[show zH [x]=x from rfl];by_cases ht:∃ rs,x=.tup rs
   ·obtain ⟨rs,rfl⟩:=ht;have cm:VR0 S (zI A β w w') w' (.tup rs) vs[0]:=hx.2;have iI:=cm.mono (A':=zI A (fun _=>none) w w') (fun b hb=>⟨hb.1,hb.2.1,by simp⟩) (fun _ _=>rfl);generalize vs[0]=v at iI;refine ⟨fun _=>none,by simp,by simp, ?_⟩;cases iI with
    | tup q1 q2=>exact ⟨_,rfl,q1,fun i y hy=>qM (q2 i y hy)⟩
   ·refine ⟨β,hβ,aA, ?_⟩;cases x with
    | tup rs=>exact absurd ⟨rs,rfl⟩ ht
    | _=>exact hx
  | [],hl,_=>simp at hl;omega
  | _ :: _ :: _,hl,_=>simp at hl;omega
 ·rw[dif_neg h1];have e:zH ys=.tup ys:=by
   match ys,hl with
   | [],_=>rfl
   | [x],hl=>simp at hl;omega
   | _ :: _ :: _,_=>rfl
  rw[e];exact ⟨β,hβ,aA,vs,rfl,hl,ha⟩
def zhZ:∀ (rs:List AV) (i j:Nat) (x y:AV) (s:Nat),zC (AV.refsL rs)=true->rs[i]? = some x->rs[j]? = some y->s∈x.refs->s∈y.refs->i=j:=by
 have app:∀ (a b:List Nat),zC (a++b)=true->zC b=true∧∀ s,s∈a->s∈b->False:=by
  intro a b
  induction a with
  | nil=>intro h;exact ⟨h,by simp⟩
  | cons x a ih =>
   intro h;simp only[As,zC,Ak,AJ,AP,decide_eq_false_iff_not,Ao] at h;obtain ⟨k1,k2⟩:=ih h.2;refine ⟨k1,fun s hs hb => ?_⟩;rcases Aq.1 hs with rfl | hs
   ·exact h.1 (.inr hb)
   ·exact k2 s hs hb
 intro rs
 induction rs with
 | nil=>intro i j x y s _ h;simp at h
 | cons a rs ih =>
  intro i j x y s hn hi hj hx hy;rw[AV.refsL] at hn;obtain ⟨k1,k2⟩:=app _ _ hn;cases i with
  | zero =>
   cases j with
   | zero=>rfl
   | succ j =>simp at hi hj;subst hi;exact (k2 s hx (zd.2 ⟨y,Ae hj,hy⟩)).elim
  | succ i =>
   cases j with
   | zero =>simp at hi hj;subst hj;exact (k2 s hy (zd.2 ⟨x,Ae hi,hx⟩)).elim
   | succ j =>simp at hi hj;rw[ih i j x y s k1 hi hj hx hy]
def zi7 {Ab:Nat->Prop} {O:Hnd} {wb:World} (h:SRel S Ab O wb A0 σ w' st tm) (hA:∀ b,A0 b->(A b∨w.heap.size<=b)∧b < w'.heap.size) (hσ:∀ s b,σ s=some b->w.heap.size<=b∧b < w'.heap.size) {own:Bool} {res:List ARes} {r:AV} {outs:bO} {fn:Func}
  (h1:zb (cRes S.P) fn.results.toList=some res) (he:qo own [] res st=some (r,outs)):outs=[]∧∃ v,(results fn tm).run S.P w'=.ok v w'∧zgD S A w w' r v:=by
 unfold qo at he;split at he
 ·rename_i rs gi;obtain ⟨vs,k1,k2,k3⟩:=wZ h h1 gi;cases own with
  | true =>
   simp only[if_true] at he;split at he
   ·rename_i hnd;split at he
    ·rename_i ys bX;simp only[Option.some.injEq,Prod.mk.injEq] at he;obtain ⟨rfl,rfl⟩:=he;obtain ⟨d1,d2⟩:=zk bX
     let β:Nat->Option Nat:=fun i=>match rs[i]? with | some (.lsl s z 0 n)=>(match st.hp s with | some (.arr z' es)=>if z=z'∧n=es.length∧zav s=false then σ s else none | _=>none) | _=>none
     have hβ:∀ i b,β i=some b->∃ s x,rs[i]? = some x∧s∈x.refs∧σ s=some b:=by
      intro i b hb;simp only[β] at hb;split at hb
      ·rename_i s z n hi;split at hb
       ·split at hb
        ·exact ⟨s,_,hi,by simp[AV.refs],hb⟩
        ·cases hb
       ·cases hb
      ·cases hb
     refine ⟨rfl,_,k1,retR_of (β:=β) (fun i b hb => ?_) (fun i j b hi hj => ?_) (by omega) fun i y hy => ?_⟩
     ·obtain ⟨s,x,_,_,hs⟩:=hβ i b hb;exact hσ s b hs
     ·obtain ⟨s,x,q1,q2,q3⟩:=hβ i b hi;obtain ⟨s',x',lM,lL,lK⟩:=hβ j b hj;obtain rfl:=h.inj s s' b q3 lK;exact zhZ rs i j x x' s hnd.1 q1 lM q2 lL
     ·have cr:∀ b,A0 b->zI A β w w' b:=fun b hb=>⟨(hA b hb).1,(hA b hb).2,fun i e=>by
       obtain ⟨s,x,_,_,hs⟩:=hβ i b e;exact (h.dom s b hs).2.2.1 hb⟩
      obtain ⟨x0,az,aC⟩:=d2 i y hy;have hg:=k3 i x0 az;have plain:β i=none->x0.refs=[]->y=x0->yA S (zI A β w w') w' (β i) y (vs.getD i undef):=(by rintro hb hr rfl;rw[hb];exact qM ((hg.rel.to0 hr).mono cr fun _ _=>rfl));have other:(∀ s z n,x0≠.lsl s z 0 n)->yA S (zI A β w w') w' (β i) y (vs.getD i undef):=by
       intro ah;have:(if x0.refs.isEmpty then some x0 else none)=some y:=by
        cases x0 with
        | lsl s z off n =>
         cases off with
         | zero=>exact absurd rfl (ah _ _ _)
         | succ off=>exact aC
        | _=>exact aC
       split at this
       ·rename_i hr;have e:=Option.some.inj this;refine plain ?_ (by simpa using hr) e.symm;clear aC this e;cases x0 with
        | lsl s z off n=>simp[AV.refs] at hr
        | _=>simp[β,az]
       ·cases this
      by_cases hl:∃ s z n,x0=.lsl s z 0 n
      ·obtain ⟨s,z,n,rfl⟩:=hl;simp only[zS] at aC;split at aC
       ·rename_i z' es hb;split at aC
        ·rename_i aw;cases aC;obtain ⟨rfl,rfl,ca⟩:=aw;have hβi:β i=σ s:=by simp[β,az,hb,ca]
         rw[hβi];obtain ⟨b0,bb⟩:=h.hp s _ hb;refine (show z7 S _ w' (σ s) z es (vs.getD i undef) from ⟨b0, ?_⟩);rcases hg.rel.lsl_inv with ⟨_,q2,q3,q4⟩ | ⟨b,o,cap,cs,el,e1,q0,q1,q2,q3,q4,q5⟩
         ·exact .inl ⟨q3,Bj.1 q2,by rw[q4]⟩
         ·rcases bb with ⟨m1,m2⟩ | ⟨b',an,bJ,m1,m2,m3,m4,m5⟩
          ·rw[m1] at q0;cases q0
          ·obtain rfl:b'=b:=Option.some.inj (m1.symm.trans q0);rw[q3] at m2;cases m2;have ho:o=0:=by have:=q2 (.inr rfl);omega
           subst ho;exact .inr ⟨b',cap,cs,el,q0,e1,q1,q5,q3,by simpa using q4,m4,fun i' e' c x h1 h2=>(m5 i' e' c x h1 h2).mono cr fun _ _=>rfl⟩
        ·cases aC
       ·cases aC
      ·exact other fun s z n e=>hl ⟨s,z,n,e⟩
    ·cases he
   ·cases he
  | false =>
   simp only[Am,if_false,if_true] at he;split at he
   ·rename_i ys bX;simp only[Option.some.injEq,Prod.mk.injEq] at he;obtain ⟨rfl,rfl⟩:=he;obtain ⟨d1,d2⟩:=zk bX;refine ⟨rfl,_,k1,retR_of (β:=fun _=>none) (by simp) (by simp) (by omega) fun i y hy => ?_⟩;obtain ⟨x0,az,aC⟩:=d2 i y hy;exact qM (yE h (fun b hb=>⟨(hA b hb).1,(hA b hb).2,by simp⟩) (k3 i x0 az).rel aC fun s b hs _=>⟨.inr (hσ s b hs).1,(hσ s b hs).2,by simp⟩)
   ·cases he
 ·cases he
def export_ok (h:SRel S A noHnd w A0 σ w' st tm) {own:Bool} {res:List ARes} {r:AV} {outs:bO} {fn:Func} (h1:zb (cRes S.P) fn.results.toList=some res) (he:qo own [] res st=some (r,outs)) :
  outs=[]∧∃ v,(results fn tm).run S.P w'=.ok v w'∧zgD S A w w' r v :=
 zi7 h (fun b hb=>⟨(h.Asub b hb).imp id fun e=>e.resolve_right (fun e=>e),h.Alt b hb⟩) (fun s b hs=>⟨(h.dom s b hs).2.2.2.resolve_right (fun e=>e),(h.dom s b hs).2.1⟩) h1 he
def zaD:∀ (i:Nat) (args:List AV),qi [] i args=true->∀ x∈args,zm x=false
 | _,[],_,_,hx=>by cases hx
 | i,a :: r,h,x,hx=>by
  simp only[qi,zj,BJ,Ci,B9,Ak,beq_iff_eq] at h;rcases Aq.1 hx with rfl | hx
  ·exact h.1
  ·exact zaD (i+1) r h.2 x hx
def qH (muts:List Nat):∀ (i:Nat) (args:List AV),(∀ x∈args,zm x=false)->zK muts i args=fun _=>none
 | _,[],_=>rfl
 | i,a :: r,h=>by
  have ih:=qH muts (i+1) r fun x hx=>h x (Ad _ hx);have ha:=h a Ah;cases a with
  | own z es=>simp[zm] at ha
  | _=>simp only[zK,ih]
def zax (muts:List Nat):∀ (i:Nat) (args:List AV) (k:Nat),(∀ x∈args,zm x=false)->qe muts i args k=.bot∨(i<=k∧args[k - i]? = some (qe muts i args k))
 | _,[],_,_=>.inl rfl
 | i,a :: r,k,h=>by
  have ih:=zax muts (i+1) r k fun x hx=>h x (Ad _ hx);have ha:=h a Ah;simp only[qe,upd];split
  ·rename_i e;subst e;refine .inr ⟨AO _, ?_⟩;simp only[CD,BT];cases a with
   | own z es=>simp[zm] at ha
   | _=>rfl
  ·rcases ih with ih | ⟨h1,h2⟩
   ·exact .inl ih
   ·refine .inr ⟨by omega, ?_⟩;rw[show k - i=(k - (i+1))+1 by omega,AN];exact h2
def zid {args:List AV} {vs:Array Value} (hf:qi [] 0 args=true) (hl:vs.size=args.length) (hA:(∀ b,A b->b < w.heap.size)∧Inv S w) (ha:∀ (i:Nat) (x:AV),args[i]? = some x->VR0 S A w x (vs.getD i undef)) (m:Nat) :
  SRel S A noHnd w A (fun _=>none) w (enter [] args) (vs++Array.replicate m undef):=by
 have ho:=zaD 0 args hf;have hh:(enter [] args).hp=fun _=>none:=by simp only[enter];exact qH [] 0 args ho
 have aZ:∀ k,(enter [] args).fr k=.bot∨VR0 S A w ((enter [] args).fr k) ((vs++Array.replicate m undef).getD k undef):=by
  intro k;rcases zax [] 0 args k ho with h | ⟨_,h⟩
  ·exact .inl h
  ·refine .inr ?_;simp only[Nat.sub_zero] at h;have:=ha k _ h;have hk:k < vs.size:=by rw[hl];exact (Aa.1 h).1
   have e:(vs++Array.replicate m undef).getD k undef=vs.getD k undef:=(by rw[Aj,Bq hk,Aj]);rw[e];exact this
 refine ⟨fun k => ?_,fun s blk hb => ?_,fun k s hs => ?_,fun s cs hs => ?_,fun s b hs => ?_,fun s s' b hs => ?_,hA.1,fun b hb=>.inl hb,.refl _ _,⟨fun s e he=>(by cases he),fun s b el m he=>(by cases he)⟩,fun b hb=>hb.elim,fun _ _ h=>h,hA.2⟩
 ·rcases aZ k with h | h
  ·rw[h];exact .of0 (.bot _)
  ·exact .of0 h
 ·rw[hh] at hb;cases hb
 ·rcases aZ k with h | h
  ·rw[h] at hs;simp[AV.refs] at hs
  ·exact (q9 h s hs).elim
 ·rw[hh] at hs;cases hs
 ·cases hs
 ·cases hs
def zhe (hS:qd S) {g id:Nat} {fn:Func} {f:AFunc} (hg:S.P.funcs[g]? = some fn) (hc:zaB S id fn=some f) (cy:zam id S.muts=[]) (hD:zR f.body=true∨jd S) {args:List AV} {r:AV} {outs:bO}
  (hb:BodyR (za S) f args r outs):outs=[]∧zdw S g args r:=by
 unfold zaB at hc;split at hc
 ·rename_i body res bn aE;split at hc
  ·rename_i aw;have ew:=aw.1;cases hc;obtain ⟨hlen,bd,e,aa,hex,dq,ax⟩:=hb;simp only at hlen bd hex ax hD;rw[cy] at bd ax hex;obtain ⟨c,cW,fx⟩:∃ c,fn.body=some c∧ya S fn.ntmps c=some body:=by
    cases cW:fn.body with
    | none=>simp[cW] at bn
    | some c=>simp[cW] at bn;exact ⟨c,rfl,bn⟩
   have main:∀ (A:Nat->Prop) (w:World) (vs:Array Value),vs.size=args.length->((∀ b,A b->b < w.heap.size)∧Inv S w)->JR S A (fun _=>False) w->(∀ (i:Nat) (x:AV),args[i]? = some x->VR0 S A w x (vs.getD i undef)) ->
     c.wp S.P (fun ex a w'=>(ex=.normal∨ex=.ret)∧a.defers=[]∧∃ A' σ',zaE S A noHnd w A' σ' w' aa a.tmps) { tmps:=vs++Array.replicate (fn.ntmps - vs.size) undef,defers:=[] } w:=by
    intro A w vs hl hA hJ ha;refine wp_mono (Stm.wp (zac hS hex hD fx ⟨w,.refl S w,hJ,zid bd hl hA ha _⟩ (by simp;omega))) ?_;rintro ex a w' ⟨q1,q2,q3,q4⟩;refine ⟨?_,q2,q4⟩;subst q1;rcases dq with rfl | rfl
    ·exact .inl rfl
    ·exact .inr rfl
   have mc:outs=[]:=by
    unfold qo at ax;split at ax
    ·split at ax
     ·split at ax
      ·split at ax
       ·simp only[Option.some.injEq,Prod.mk.injEq] at ax;exact ax.2.symm
       ·cases ax
      ·cases ax
     ·simp only[if_true] at ax;split at ax
      ·simp only[Option.some.injEq,Prod.mk.injEq] at ax;exact ax.2.symm
      ·cases ax
    ·cases ax
   refine ⟨mc,fun A w vs hl hA hJ ha => ?_⟩;refine calls_of_wp hg cW (wp_mono (main A w vs hl hA hJ ha) ?_);rintro ex a w' ⟨q1,q2,A',σ',w2,r2,j2,q3⟩;obtain ⟨_,v,k1,k2⟩:=export_ok q3 aE ax;have bq:=r2.keep q3.keep;have bq:KeepO S.jg w w':=⟨bq.os,bq.tape,bq.output,bq.size,fun k hk hn=>bq.block k hk fun e=>e.elim (fun e=>e) hn⟩;have hj:=(q3.jpreA j2).jn;have k2:=k2.same r2.size.symm;rcases q1 with rfl | rfl
   ·exact ⟨q2,v,k1,v,rfl,bq,hj,k2⟩
   ·exact ⟨q2,v,k1,v,rfl,bq,hj,k2⟩
  ·cases hc
 ·cases hc
def ja (muts:List Nat) (ι:Nat->Option Nat):Nat->List AV->Nat->Option Nat
 | _,[]=>fun _=>none
 | i,x :: r=>match x with | .own _ _=>upd (ja muts ι (i+1) r) (z6 muts i) (ι i) | _=>ja muts ι (i+1) r
def zbc {muts:List Nat} {i j:Nat} (hi:i < 1000) (hj:j < 1000) (h:z6 muts i=z6 muts j):i=j:=by simp only[z6] at h;split at h<;>split at h<;>omega
def ziJ {muts:List Nat} {i:Nat} (hi:i < 1000):zav (z6 muts i)=muts.contains i:=by
 simp only[z6];split
 ·rename_i h;rw[h,zav,Ak,Nat.ble_eq,Bz];omega
 ·rename_i h;have h':muts.contains i=false:=by simpa using h
  rw[h',zav,Cn];right;rw[← BZ,Bz];omega
def jh (muts:List Nat) (ι:Nat->Option Nat):∀ (i:Nat) (args:List AV) (s:Nat),(zK muts i args s=none∧ja muts ι i args s=none) ∨
  ∃ j z es,args[j]? = some (.own z es)∧s=z6 muts (i+j)∧zK muts i args s=some (.arr z es)∧ja muts ι i args s=ι (i+j)
 | _,[],_=>.inl ⟨rfl,rfl⟩
 | i,a :: r,s=>by
  have ih:=jh muts ι (i+1) r s
  have other:zK muts i (a :: r) s=zK muts (i+1) r s->ja muts ι i (a :: r) s=ja muts ι (i+1) r s->(zK muts i (a :: r) s=none∧ja muts ι i (a :: r) s=none) ∨
    ∃ j z es,(a :: r)[j]? = some (.own z es)∧s=z6 muts (i+j)∧zK muts i (a :: r) s=some (.arr z es)∧ja muts ι i (a :: r) s=ι (i+j):=by
   intro e1 e2;rw[e1,e2];rcases ih with h | ⟨j,z,es,h1,h2,h3,h4⟩
   ·exact .inl h
   ·exact .inr ⟨j+1,z,es,by simpa using h1,by rw[h2];congr 1;omega,h3,by rw[h4];congr 1;omega⟩
  cases a with
  | own z es =>
   by_cases e:s=z6 muts i
   ·subst e;exact .inr ⟨0,z,es,rfl,rfl,by simp only[zK,zM],by simp only[ja,zM];rfl⟩
   ·exact other (by simp only[zK,jC _ _ _ e]) (by simp only[ja,jC _ _ _ e])
  | _=>exact other rfl rfl
def kH (muts:List Nat):∀ (i:Nat) (args:List AV) (j z:Nat) (es:List (List AV)),args[j]? = some (.own z es)->zK muts i args (z6 muts (i+j))≠none
 | _,[],_,_,_,h=>by simp at h
 | i,a :: r,j,z,es,h=>by
  cases j with
  | zero =>simp at h;subst h;simp[zK,upd]
  | succ j =>
   have ih:=kH muts (i+1) r j z es (by simpa using h);rw[show i+1+j=i+(j+1) by omega] at ih;cases a with
   | own z' aX =>
    simp only[zK,upd];split
    ·simp
    ·exact ih
   | _=>exact ih
def zcW (muts:List Nat):∀ (i:Nat) (args:List AV) (k:Nat),qe muts i args k=.bot∨∃ x,i<=k∧args[k - i]? = some x∧qe muts i args k=(match x with | .own z es=>.lsl (z6 muts k) z 0 (List.length es) | x=>x)
 | _,[],_=>.inl rfl
 | i,a :: r,k=>by
  have ih:=zcW muts (i+1) r k;simp only[qe,upd];split
  ·rename_i e;subst e;exact .inr ⟨a,AO _,by simp,rfl⟩
  ·rcases ih with ih | ⟨x,h1,h2,h3⟩
   ·exact .inl ih
   ·refine .inr ⟨x,by omega, ?_,h3⟩;rw[show k - i=(k - (i+1))+1 by omega,AN];exact h2
def dZ (muts:List Nat) (args:List AV) (ι:Nat->Option Nat) (w:World):Hnd :=
 ⟨qI ι,fun s=>if zav s=true then (match zK muts 0 args s,ja muts ι 0 args s with
  | some (.arr z es),some b=>(match w.heap[b]? with | some (.cells cs el _)=>some ⟨some b,z,es.length,el,cs.size⟩ | _=>some ⟨some b,z,es.length,0,0⟩)
  | some (.arr z es),none=>some ⟨none,z,es.length,0,0⟩
  | _,_=>none) else none,fun _=>none⟩
def zbr {muts:List Nat} {ι:Nat->Option Nat}:∀ (i:Nat) (args:List AV) (s b:Nat),ja muts ι i args s=some b->∃ j,ι j=some b
 | _,[],s,b,h=>by cases h
 | i,x :: r,s,b,h=>by
  unfold ja at h;split at h
  ·unfold upd at h;split at h
   ·exact ⟨_,h⟩
   ·exact zbr (i+1) r s b h
  ·exact zbr (i+1) r s b h
def zi3 {muts:List Nat} {args:List AV} {ι:Nat->Option Nat} {w2:World} (h:∀ i b,ι i=some b->w2.heap[b]? = w.heap[b]?):dZ muts args ι w2=dZ muts args ι w:=by
 unfold dZ;congr 1;funext s;split
 ·cases h1:zK muts 0 args s with
  | none=>rfl
  | some blk =>
   cases blk with
   | var cs=>rfl
   | arr z es =>
    cases h2:ja muts ι 0 args s with
    | none=>rfl
    | some b =>obtain ⟨j,hj⟩:=zbr 0 args s b h2;simp only[h j b hj]
 ·rfl
def yA.same {w2:World} {b?:Option Nat} {x:AV} {v:Value} (h:yA S A w b? x v) (hA:∀ b,A b->w2.heap[b]? = w.heap[b]?) (hb:∀ b,b? = some b->w2.heap[b]? = w.heap[b]?):yA S A w2 b? x v:=by
 by_cases ho:∃ z es,x=.own z es
 ·obtain ⟨z,es,rfl⟩:=ho;obtain ⟨h0,h1 | ⟨b,cap,us,el,h1,h2,h3,h4,h5,h6,h7,h8⟩⟩:=h
  ·exact ⟨h0,.inl h1⟩
  ·exact ⟨h0,.inr ⟨b,cap,us,el,h1,h2,h3,h4,by rw[hb b h1];exact h5,h6,h7,fun i e c x hi hc=>(h8 i e c x hi hc).mono (fun _ h=>h) hA⟩⟩
 ·obtain ⟨k1,k2⟩:=wn h (by cases x<;>first | rfl | exact absurd ⟨_,_,rfl⟩ ho)
  rw[k1];exact qM (k2.mono (fun _ h=>h) hA)
def enterM_ok {muts:List Nat} {args:List AV} {vs:Array Value} {ι:Nat->Option Nat} (hl:vs.size=args.length) (hn:args.length<=1000) (hA:(∀ b,A b->b < w.heap.size)∧Inv S w)
  (hι:(∀ i b,ι i=some b->i < args.length∧b < w.heap.size∧¬ A b∧∀ p∈S.globB,p≠b)∧∀ i j b,ι i=some b->ι j=some b->i=j)
  (ha:∀ (i:Nat) (x:AV),args[i]? = some x->yA S A w (ι i) x (vs.getD i undef)) (m:Nat) :
  SRel S A (dZ muts args ι w) w A (ja muts ι 0 args) w (enter muts args) (vs++Array.replicate m undef):=by
 have aq:∀ (j:Nat) (x:AV),args[j]? = some x->j < 1000:=fun j x h=>by have:=(Aa.1 h).1;omega
 have cw:∀ (j z:Nat) (es:List (List AV)),args[j]? = some (.own z es)->zK muts 0 args (z6 muts j)=some (.arr z es)∧ja muts ι 0 args (z6 muts j)=ι j:=by
  intro j z es h;have h0:=kH muts 0 args j z es h;rw[AL] at h0;rcases jh muts ι 0 args (z6 muts j) with ⟨h1,_⟩ | ⟨j',z',aX,h1,h2,h3,h4⟩
  ·exact absurd h1 h0
  ·rw[AL] at h2 h4;obtain rfl:=zbc (aq j _ h) (aq j' _ h1) h2;rw[h] at h1;cases h1;exact ⟨h3,h4⟩
 have aZ:∀ k,(enter muts args).fr k=.bot∨Got S A (ja muts ι 0 args) w (enter muts args) ((enter muts args).fr k) ((vs++Array.replicate m undef).getD k undef):=by
  intro k;rcases zcW muts 0 args k with h | ⟨x,_,h1,h2⟩
  ·exact .inl h
  ·refine .inr ?_;rw[Nat.sub_zero] at h1;have hk:k < vs.size:=by rw[hl];exact (Aa.1 h1).1
   have e:(vs++Array.replicate m undef).getD k undef=vs.getD k undef:=(by rw[Aj,Bq hk,Aj]);rw[e];have hx:=ha k x h1;show Got S A _ w _ (qe muts 0 args k) _;rw[h2];by_cases ho:∃ z es,x=.own z es
   ·obtain ⟨z,es,rfl⟩:=ho;obtain ⟨k1,k2⟩:=cw k z es h1;refine ⟨(qJ (show z7 S A w (ι k) z es _ from hx) k2).1,fun s hs => ?_⟩;rw[AV.refs,Ai] at hs;subst hs;show zK muts 0 args _≠none;rw[k1];simp
   ·have az:=wn hx (by cases x<;>first | rfl | exact absurd ⟨_,_,rfl⟩ ho)
    clear h2 hx h1;cases x with
    | own z es=>exact absurd ⟨_,_,rfl⟩ ho
    | _=>exact ⟨.of0 az.2,fun s hs=>(q9 az.2 s hs).elim⟩
 have cB:∀ s blk,(enter muts args).hp s=some blk->∃ j z es,args[j]? = some (.own z es)∧s=z6 muts j∧blk=.arr z es∧ja muts ι 0 args s=ι j:=by
  intro s blk hb;have hb:zK muts 0 args s=some blk:=hb;rcases jh muts ι 0 args s with ⟨h1,_⟩ | ⟨j',z',aX,h1,h2,h3,h4⟩
  ·rw[h1] at hb;cases hb
  ·rw[h3] at hb;cases hb;rw[AL] at h2 h4;exact ⟨j',z',aX,h1,h2,rfl,h4⟩
 have gh:∀ s b,ja muts ι 0 args s=some b->∃ j z es,args[j]? = some (.own z es)∧s=z6 muts j∧zK muts 0 args s=some (.arr z es)∧ι j=some b:=by
  intro s b hs;rcases jh muts ι 0 args s with ⟨_,h1⟩ | ⟨j',z',aX,h1,h2,h3,h4⟩
  ·rw[h1] at hs;cases hs
  ·rw[AL] at h2 h4;exact ⟨j',z',aX,h1,h2,h3,h4 ▸ hs⟩
 refine ⟨fun k => ?_,fun s blk hb => ?_,fun k s hs => ?_,fun s cs hs => ?_,fun s b hs => ?_,fun s s' b h1 h2 => ?_,hA.1,fun b hb=>.inl hb,.refl _ _,⟨fun s e he => ?_,fun s b el m he=>(by cases he)⟩,fun b ⟨i,hi⟩=>(hι.1 i b hi).2.1,fun p hp ⟨i,hi⟩=>(hι.1 i _ hi).2.2.2 p hp rfl,hA.2⟩
 ·rcases aZ k with h | h
  ·rw[h];exact .of0 (.bot _)
  ·exact h.rel
 ·obtain ⟨j,z,es,h1,h2,rfl,h4⟩:=cB s blk hb;subst h2;exact (qJ (show z7 S A w (ι j) z es _ from ha j _ h1) h4).2
 ·rcases aZ k with h | h
  ·rw[h] at hs;simp[AV.refs] at hs
  ·exact h.dang s hs
 ·obtain ⟨_,_,_,_,_,h,_⟩:=cB s _ hs;cases h
 ·obtain ⟨j,z,es,h1,h2,h3,h4⟩:=gh s b hs;obtain ⟨_,q2,q3,_⟩:=hι.1 j b h4;exact ⟨by show zK muts 0 args s≠none;rw[h3];simp,q2,q3,.inr ⟨j,h4⟩⟩
 ·obtain ⟨j,_,_,_,e1,_,h4⟩:=gh s b h1;obtain ⟨j',_,_,_,pt,_,nP⟩:=gh s' b h2;rw[e1,pt,hι.2 j j' b h4 nP]
 ·simp only[dZ] at he;split at he
  ·rename_i hf;split at he
   ·rename_i z es b hz hs;obtain ⟨j,z',aX,h1,h2,h3,h4⟩:=cB s _ hz;cases h3;have ho:z7 S A w (ι j) z es (vs.getD j undef):=ha j _ h1;obtain ⟨_,⟨q1,_,_⟩ | ⟨b',cap,us,el,q1,_,_,_,q5,_⟩⟩:=ho
    ·rw[h4,q1] at hs;cases hs
    ·obtain rfl:b=b':=Option.some.inj ((hs.symm.trans h4).trans q1);simp only[q5,Option.some.injEq] at he;subst he;refine ⟨hf,hs,⟨es,hz,rfl⟩,fun b' ay => ?_⟩;cases ay;exact ⟨us,q5,rfl⟩
   ·rename_i z es hz hs;simp only[Option.some.injEq] at he;subst he;exact ⟨hf,hs,⟨es,hz,rfl⟩,by simp⟩
   ·cases he
  ·cases he
def zdW {st:ASt} {muts:List Nat} {outs:bO} (h:zhX st muts=some outs) {i:Nat} {es:List (List AV)} (hi:(i,es)∈outs):muts.contains i=true∧i < 1000∧∃ z,st.hp (1000+i)=some (.arr z es):=by
 obtain ⟨h1,h2⟩:=zk h;obtain ⟨j,hj⟩:=Ay.1 hi;obtain ⟨i0,h3,h4⟩:=h2 j _ hj;have hm:=Ae h3;simp only[jc,BF,Bz] at hm;split at h4
 ·rename_i z aX hz;simp only[Option.some.injEq,Prod.mk.injEq] at h4;obtain ⟨rfl,rfl⟩:=h4;exact ⟨by simpa[AP] using hm.1,hm.2,z,hz⟩
 ·cases h4
def zi9 {muts:List Nat} {args:List AV} {vs:Array Value} {ι:Nat->Option Nat} (hl:vs.size=args.length) (hn:args.length<=1000) (bd:qi muts 0 args=true)
  (hι:(∀ i b,ι i=some b->i < args.length∧b < w.heap.size∧¬ A b∧∀ p∈S.globB,p≠b)∧∀ i j b,ι i=some b->ι j=some b->i=j)
  (ha:∀ (i:Nat) (x:AV),args[i]? = some x->yA S A w (ι i) x (vs.getD i undef))
  (h:SRel S A (dZ muts args ι w) w A0 σ w' st tm) {res:List ARes} {r:AV} {outs:bO} {fn:Func} (h1:zb (cRes S.P) fn.results.toList=some res) (hm:muts≠[]) (he:qo false muts res st=some (r,outs)) :
  ∃ v,(results fn tm).run S.P w'=.ok v w'∧zgE S A (jO ι outs) (zbC S args ι vs w w' outs) w w' r v:=by
 unfold qo at he;split at he
 ·rename_i rs gi;simp only[Am,if_false,if_neg hm] at he;split at he
  ·rename_i hnd;split at he
   ·rename_i ys bA bX fL;simp only[Option.some.injEq,Prod.mk.injEq] at he;obtain ⟨rfl,rfl⟩:=he;obtain ⟨us,k1,k2,k3⟩:=wZ h h1 gi;obtain ⟨d1,d2⟩:=zk bX
    -- what stays the caller's
    have fit:∀ (i:Nat) (x:AV),args[i]? = some x->zm x=zj muts i:=by
     have:∀ (i:Nat) (l:List AV),qi muts i l=true->∀ (j:Nat) (x:AV),l[j]? = some x->zm x=zj muts (i+j):=by
      intro i l
      induction l generalizing i with
      | nil=>intro _ j x h;simp at h
      | cons a l ih =>
       intro h j x hj;simp only[qi,Ak,beq_iff_eq] at h;cases j with
       | zero=>simp at hj;subst hj;simpa using h.1
       | succ j =>
        have:=ih (i+1) h.2 j x (by simpa using hj)
        rwa [show i+1+j=i+(j+1) by omega] at this
     intro i x hi;simpa using this 0 args bd i x hi
    have kept:∀ i es,(i,es)∈bA->i < args.length->∃ z bf el m,args[i]? = some (.own z bf)∧(dZ muts args ι w).k (1000+i)=some ⟨ι i,z,bf.length,el,m⟩∧(∀ b cs bJ fz,ι i=some b->w.heap[b]? = some (.cells cs bJ fz)->bJ=el∧cs.size=m):=by
     intro i es hi aq;obtain ⟨c1,c2,_⟩:=zdW fL hi;have hx:=Ac aq;have ho:zm args[i]=true:=by rw[fit i _ hx];simp only[zj,c1,CF,Ce,Bz];exact c2
     cases oG:args[i] with
     | own z bf =>
      rw[oG] at hx;have eJ:z6 muts i=1000+i:=by rw[z6,if_pos c1]
      have h0:=kH muts 0 args i z bf hx;rw[AL,eJ] at h0;rcases jh muts ι 0 args (1000+i) with ⟨q1,_⟩ | ⟨j',z',aX,q1,q2,q3,q4⟩
      ·exact absurd q1 h0
      ·rw[AL] at q2 q4;obtain rfl:i=j':=zbc c2 (by have:=(Aa.1 q1).1;omega) (eJ.trans q2);rw[hx] at q1;cases q1;have hf:zav (1000+i)=true:=by rw[← eJ,ziJ c2];exact c1
       cases hb:ι i with
       | none=>exact ⟨z,bf,0,0,hx,by simp only[dZ,if_pos hf,q3,q4,hb],by simp⟩
       | some b =>
        cases hw:w.heap[b]? with
        | none=>exact ⟨z,bf,0,0,hx,by simp only[dZ,if_pos hf,q3,q4,hb,hw],fun b' cs bJ fz e1 e2=>by cases e1;rw[hw] at e2;cases e2⟩
        | some ob =>
         cases ob with
         | cells cs el fz=>exact ⟨z,bf,el,cs.size,hx,by simp only[dZ,if_pos hf,q3,q4,hb,hw],fun b' an bJ fz' e1 e2=>by cases e1;rw[hw] at e2;cases e2;exact ⟨rfl,rfl⟩⟩
         | _=>exact ⟨z,bf,0,0,hx,by simp only[dZ,if_pos hf,q3,q4,hb,hw],fun b' an bJ fz' e1 e2=>by cases e1;rw[hw] at e2;cases e2⟩
     | _=>rw[oG] at ho;simp[zm] at ho
    have hE:∀ s b,σ s=some b->zav s=false->w.heap.size<=b∨jO ι bA b:=by
     intro s b hs hf;rcases (h.dom s b hs).2.2.2 with q | ⟨i,hi⟩
     ·exact .inl q
     ·refine .inr ⟨i,hi,fun es gr => ?_⟩;obtain ⟨z,bf,el,m,q1,q2,_⟩:=kept i es gr (hι.1 i b hi).1;obtain ⟨p1,p2,_⟩:=h.kp.1 _ _ q2;have:=h.inj s (1000+i) b hs (p2.trans hi);rw[this,p1] at hf;cases hf
    have hA:∀ b,A0 b->((A b∨jO ι bA b)∨w.heap.size<=b)∧b < w'.heap.size:=by
     intro b hb;refine ⟨?_,h.Alt b hb⟩;rcases h.Asub b hb with q | q | ⟨i,hi⟩
     ·exact .inl (.inl q)
     ·exact .inr q
     ·refine .inl (.inr ⟨i,hi,fun es gr => ?_⟩);obtain ⟨z,bf,el,m,q1,q2,_⟩:=kept i es gr (hι.1 i b hi).1;obtain ⟨p1,p2,_⟩:=h.kp.1 _ _ q2;exact (h.dom _ b (p2.trans hi)).2.2.1 hb
    let β:Nat->Option Nat:=fun i=>match rs[i]? with | some (.lsl s z 0 n)=>(match st.hp s with | some (.arr z' es)=>if z=z'∧n=es.length∧zav s=false then σ s else none | _=>none) | _=>none
    have hβ:∀ i b,β i=some b->∃ s x,rs[i]? = some x∧s∈x.refs∧σ s=some b∧zav s=false:=by
     intro i b hb;simp only[β] at hb;split at hb
     ·rename_i s z n hi;split at hb
      ·split at hb
       ·rename_i hc;exact ⟨s,_,hi,by simp[AV.refs],hb,hc.2.2⟩
       ·cases hb
      ·cases hb
     ·cases hb
    have cr:∀ b,A0 b->zI (fun b=>A b∨jO ι bA b) β w w' b:=fun b hb=>⟨(hA b hb).1,(hA b hb).2,fun i e=>by
     obtain ⟨s,x,_,_,hs,_⟩:=hβ i b e;exact (h.dom s b hs).2.2.1 hb⟩
    have parts:∀ (i:Nat) (y:AV),ys[i]? = some y->yA S (zI (fun b=>A b∨jO ι bA b) β w w') w' (β i) y (us.getD i undef):=by
     intro i y hy;obtain ⟨x0,az,aC⟩:=d2 i y hy;have hg:=k3 i x0 az;by_cases hl:∃ s z n,x0=.lsl s z 0 n
     ·obtain ⟨s,z,n,rfl⟩:=hl;simp only[zS] at aC;split at aC
      ·rename_i z' es hb;split at aC
       ·rename_i aw;cases aC;obtain ⟨rfl,rfl,ca⟩:=aw;have hβi:β i=σ s:=by simp[β,az,hb,ca]
        rw[hβi];exact z7.mono cr (zaQ h hg.rel hb)
       ·cases aC
      ·cases aC
     ·have:(if x0.refs.isEmpty then some x0 else none)=some y:=by
       cases x0 with
       | lsl s z off n =>
        cases off with
        | zero=>exact absurd ⟨_,_,_,rfl⟩ hl
        | succ off=>exact aC
       | _=>exact aC
      split at this
      ·rename_i hr;have e:=Option.some.inj this;subst e;have hb:β i=none:=by
        clear aC this;cases x0 with
        | lsl s z off n=>simp[AV.refs] at hr
        | _=>simp[β,az]
       rw[hb];exact qM ((hg.rel.to0 (by simpa using hr)).mono cr fun _ _=>rfl)
      ·cases this
    refine ⟨_,k1, ?_⟩;have hβ1:∀ i b,β i=some b->(w.heap.size<=b∨jO ι bA b)∧b < w'.heap.size:=fun i b hb=>(by obtain ⟨s,x,_,_,hs,hf⟩:=hβ i b hb;exact ⟨hE s b hs hf,(h.dom s b hs).2.1⟩);have hβ2:∀ i j b,β i=some b->β j=some b->i=j:=fun i j b hi hj=>(by obtain ⟨s,x,q1,q2,q3,_⟩:=hβ i b hi;obtain ⟨s',x',lM,lL,lK,_⟩:=hβ j b hj;obtain rfl:=h.inj s s' b q3 lK;exact zhZ rs i j x x' s hnd q1 lM q2 lL);have hT:zbC S args ι vs w w' bA (zI (fun b=>A b∨jO ι bA b) β w w'):=by
     intro i es z bf hi hx;obtain ⟨z',es0',el,m,q1,q2,q3⟩:=kept i es hi (Aa.1 hx).1;rw[hx] at q1;cases q1;obtain ⟨p1,p2,⟨dz,p3,p4⟩,p5⟩:=h.kp.1 _ _ q2;simp only at p2 p3 p4 p5;obtain ⟨_,_,z2,c3⟩:=zdW fL hi;rw[p3] at c3;cases c3;have ho:z7 S A w (ι i) z bf (vs.getD i undef):=ha i _ hx;obtain ⟨b0,bb⟩:=h.hp _ _ p3;refine ⟨p4,⟨b0, ?_⟩,fun b cs bJ hb hc => ?_⟩
     ·obtain ⟨_,⟨o1,o2,o3⟩ | ⟨b,cap,lH,bJ,o1,o2,o3,o4,o5,o6,_⟩⟩:=ho
      ·subst o2;exact .inl ⟨o1,Bj.1 (by simpa using p4),o3⟩
      ·obtain ⟨cs,p6,p7⟩:=p5 b o1;rcases bb with ⟨m1,_⟩ | ⟨b',us2,el2,m1,m2,m3,m4,m5⟩
       ·rw[p2,o1] at m1;cases m1
       ·rw[p2,o1] at m1;cases m1;rw[p6] at m2;cases m2;have aG:=(q3 b lH bJ (0,0) o1 o5).2;exact .inr ⟨b,cap,cs,el,o1,by rw[o2,p4],by omega,o4,p6,by omega,m4,fun i' e' c x h1 h2=>(m5 i' e' c x h1 h2).mono cr fun _ _=>rfl⟩
     ·obtain ⟨an,p6,p7⟩:=p5 b hb;obtain ⟨rfl,e2⟩:=q3 b cs bJ (0,0) hb hc;exact ⟨an,p6,by omega⟩
    by_cases lR:us.size=1
    ·rw[dif_pos lR];have e:us[0]=us.getD 0 undef:=by simp[Array.getD,lR]
     match ys,(show ys.length=us.size by omega),parts,d1 with
     | [x],_,parts,d1 =>
      have hx:=parts 0 x rfl;rw[← e] at hx;rw[show zH [x]=x from rfl];by_cases ht:∃ rs,x=.tup rs
      ·obtain ⟨rs',rfl⟩:=ht;have cm:=wn hx rfl;have bV:β 0=none:=cm.1;have iI:=cm.2.mono (A':=zI (fun b=>A b∨jO ι bA b) β w w') (fun b hb=>hb) (fun _ _=>rfl);have hβn:∀ i,β i=none:=by
        intro i;cases i with
        | zero=>exact bV
        | succ i =>
         have ct:rs[i+1]? = none:=by
          rw[List.getElem?_eq_none_iff];have:rs.length=1:=by simpa using d1
          omega
         simp only[β,ct]
       generalize us[0]=v at iI;refine ⟨β,hβ1,hβ2,hT, ?_⟩;cases iI with
       | tup q1 q2=>exact ⟨_,rfl,q1,fun i y hy=>by rw[hβn];exact qM (q2 i y hy)⟩
      ·refine ⟨β,hβ1,hβ2,hT, ?_⟩;cases x with
       | tup rs=>exact absurd ⟨rs,rfl⟩ ht
       | _=>exact hx
     | [],hl,_,_=>simp at hl;omega
     | _ :: _ :: _,hl,_,_=>simp at hl;omega
    ·rw[dif_neg lR];have e:zH ys=.tup ys:=by
      match ys,(show ys.length=us.size by omega) with
      | [],_=>rfl
      | [x],hl=>simp at hl;omega
      | _ :: _ :: _,_=>rfl
     rw[e];exact ⟨β,hβ1,hβ2,hT,us,rfl,by omega,parts⟩
   ·cases he
  ·cases he
 ·cases he
def zhd (hS:qd S) {g id:Nat} {fn:Func} {f:AFunc} (hg:S.P.funcs[g]? = some fn) (hc:zaB S id fn=some f) (cy:zam id S.muts≠[]) (cw:S.own.contains id=false) (hD:zR f.body=true∨jd S) {args:List AV} {r:AV} {outs:bO}
  (hb:BodyR (za S) f args r outs):wo S g args r outs:=by
 unfold zaB at hc;split at hc
 ·rename_i body res bn aE;split at hc
  ·rename_i aw;have ew:=aw.1;have hnp:=aw.2.resolve_left cy;cases hc;obtain ⟨hlen,bd,e,aa,hex,dq,ax⟩:=hb;simp only at hlen bd hex ax hD;rw[cw] at ax;obtain ⟨c,cW,fx⟩:∃ c,fn.body=some c∧ya S fn.ntmps c=some body:=by
    cases cW:fn.body with
    | none=>simp[cW] at bn
    | some c=>simp[cW] at bn;exact ⟨c,rfl,bn⟩
   intro A w vs ι hl hA hι hJ ha;have main:c.wp S.P (fun ex a w'=>(ex=.normal∨ex=.ret)∧a.defers=[]∧∃ A' σ',zaE S A (dZ (zam id S.muts) args ι w) w A' σ' w' aa a.tmps) { tmps:=vs++Array.replicate (fn.ntmps - vs.size) undef,defers:=[] } w:=by
    refine wp_mono (Stm.wp (zac hS hex hD fx ⟨w,.refl S w,hJ,enterM_ok hl (by omega) hA hι ha _⟩ (by simp;omega))) ?_;rintro ex a w' ⟨q1,q2,q3,q4⟩;refine ⟨?_,q2,q4⟩;subst q1;rcases dq with rfl | rfl
    ·exact .inl rfl
    ·exact .inr rfl
   refine calls_of_wp hg cW (wp_mono main ?_);rintro ex a w' ⟨q1,q2,A',σ',w2,r2,j2,q3⟩;have mx:∀ i b,ι i=some b->w2.heap[b]? = w.heap[b]?:=fun i b hb=>r2.block b fun e=>hJ.no b e ⟨i,hb⟩;have bq:=r2.keep q3.keep;have hj:=(q3.jpreA j2).jn;rw[← zi3 (muts:=zam id S.muts) (args:=args) mx] at q3;obtain ⟨v,k1,k2⟩:=zi9 hl (by omega) bd ⟨fun i b hb=>by rw[r2.size];exact hι.1 i b hb,hι.2⟩ (fun i x hx=>(ha i x hx).same (fun b hb=>r2.block b fun e=>hJ.na b e hb) (mx i)) q3 aE cy ax;have k2:=k2.same r2.size.symm fun i b hb=>(mx i b hb).symm;rcases q1 with rfl | rfl
   ·exact ⟨q2,v,k1,v,rfl,bq,hj,k2⟩
   ·exact ⟨q2,v,k1,v,rfl,bq,hj,k2⟩
  ·cases hc
 ·cases hc
def zi4 (hS:qd S) {g id:Nat} {fn:Func} {f:AFunc} (hg:S.P.funcs[g]? = some fn) (hc:zaB S id fn=some f) (hD:zR f.body=true∨jd S) {args:List AV} {r:AV} {outs:bO}
  (hb:BodyR (za S) f args r outs):wo S g args r outs:=by
 by_cases cy:zam id S.muts=[]
 ·obtain ⟨rfl,h⟩:=zhe hS hg hc cy hD hb;refine wF h (zaD 0 args ?_);have h2:=hb.2.1;unfold zaB at hc;split at hc
  ·split at hc
   ·cases hc;simp only[cy] at h2;exact h2
   ·cases hc
  ·cases hc
 ·refine zhd hS hg hc cy ?_ hD hb;obtain ⟨_,_,e,aa,_,_,ax⟩:=hb;unfold zaB at hc;split at hc
  ·split at hc
   ·cases hc;simp only at ax;cases ho:S.own.contains id with
    | false=>rfl
    | true =>
     rw[ho] at ax;unfold qo at ax;split at ax
     ·simp only[if_true] at ax;split at ax
      ·rename_i hq;exact absurd hq.2 cy
      ·cases ax
     ·cases ax
   ·cases hc
  ·cases hc
def ok_of (hS:qd S) {G:Nat->Option AFunc} (hG:∀ g id,qh g S.fns=some id->∀ f,G id=some f->∃ fn,S.P.funcs[g]? = some fn∧zaB S id fn=some f) (hD:∀ id f,G id=some f->zR f.body=true∨jd S):Ok G (za S):=by intro id f args r outs hf hb g hg;obtain ⟨fn,h1,h2⟩:=hG g id hg f hf;exact zi4 hS h1 h2 (hD id f hf) hb
end
end
section
open Go Go.RowKit
def qw:Nat->List AV->Nat->Option Blk
 | _,[]=>fun _=>none
 | j,x :: r=>match x with | .own z es=>upd (qw (j+1) r) (inS 1000 j) (some (.arr z es)) | _=>qw (j+1) r
def qz (cs args:List AV):ASt:={ fr:=upd (qe [] 1 args) 0 (.pv 1000 0),hp:=upd (qw 0 cs) 1000 (some (.var (jI 1000 0 cs))) }
def zcR (res:List ARes) (st:ASt):Option (AV×List AV) :=
 match zb (q8 st) res,st.hp 1000 with
 | some rs,some (.var ch)=>if zC (AV.refsL rs++AV.refsL ch)=true then (match zb (zS st) rs,zb (zS st) ch with | some ys,some cs=>some (zH ys,cs) | _,_=>none) else none
 | _,_=>none
def BodyO (M:Rets) (fn:AFunc) (cs args:List AV) (r:AV) (an:List AV):Prop :=
 args.length+1=fn.np∧(∀ x∈args,zm x=false)∧∃ e aa,Ex M fn.body (qz cs args) e aa∧(e=.norm∨e=.ret)∧zcR fn.res aa=some (r,an)
def zeS (res:List ARes) (st:ASt):Option (List AV×List AV) :=
 match zb (q8 st) res with
 | some (.pv s 0 :: r :: rs)=>match st.hp s with
  | some (.var ch)=>if zC (AV.refsL (r :: rs)++AV.refsL ch)=true then (match zb (zS st) (r :: rs),zb (zS st) ch with | some ys,some cs=>some (ys,cs) | _,_=>none) else none
  | _=>none
 | _=>none
def BodyN (M:Rets) (fn:AFunc) (args rs cs:List AV):Prop :=
 args.length=fn.np∧(∀ x∈args,zm x=false)∧∃ e aa,Ex M fn.body (enter [] args) e aa∧(e=.norm∨e=.ret)∧zeS fn.res aa=some (rs,cs)
def OkO (G:Nat->Option AFunc) (M:Rets):Prop :=
 (∀ f fn cs args r an,G f=some fn->BodyO M fn cs args r an->M.reto f cs args r an)∧∀ f fn args rs cs,G f=some fn->BodyN M fn args rs cs->M.retn f args rs cs
section
variable {S:Seat} {A0:Nat->Prop} {O:Hnd} {w0:World} {A:Nat->Prop} {σ:Nat->Option Nat} {w w':World} {st aa:ASt} {tm:Array Value}
def qv (ι:Nat->Option Nat):Nat->List AV->Nat->Option Nat
 | _,[]=>fun _=>none
 | j,x :: r=>match x with | .own _ _=>upd (qv ι (j+1) r) (inS 1000 j) (ι j) | _=>qv ι (j+1) r
def zbV (ι:Nat->Option Nat):∀ (i:Nat) (cs:List AV) (s:Nat),(qw i cs s=none∧qv ι i cs s=none)∨∃ j z es,cs[j]? = some (.own z es)∧s=inS 1000 (i+j)∧qw i cs s=some (.arr z es)∧qv ι i cs s=ι (i+j)
 | _,[],_=>.inl ⟨rfl,rfl⟩
 | i,a :: r,s=>by
  have ih:=zbV ι (i+1) r s
  have other:qw i (a :: r) s=qw (i+1) r s->qv ι i (a :: r) s=qv ι (i+1) r s->(qw i (a :: r) s=none∧qv ι i (a :: r) s=none) ∨
    ∃ j z es,(a :: r)[j]? = some (.own z es)∧s=inS 1000 (i+j)∧qw i (a :: r) s=some (.arr z es)∧qv ι i (a :: r) s=ι (i+j):=by
   intro e1 e2;rw[e1,e2];rcases ih with h | ⟨j,z,es,h1,h2,h3,h4⟩
   ·exact .inl h
   ·exact .inr ⟨j+1,z,es,by simpa using h1,by rw[h2];congr 1;omega,h3,by rw[h4];congr 1;omega⟩
  cases a with
  | own z es =>
   by_cases e:s=inS 1000 i
   ·subst e;exact .inr ⟨0,z,es,rfl,rfl,by simp only[qw,zM],by simp only[qv,zM];rfl⟩
   ·exact other (by simp only[qw,jC _ _ _ e]) (by simp only[qv,jC _ _ _ e])
  | _=>exact other rfl rfl
def inS_inj {s i j:Nat} (h:inS s i=inS s j):i=j:=by simp only[inS] at h;omega
def zbs (ι:Nat->Option Nat):∀ (i:Nat) (cs:List AV) (j z:Nat) (es:List (List AV)),cs[j]? = some (.own z es)->qw i cs (inS 1000 (i+j))=some (.arr z es)∧qv ι i cs (inS 1000 (i+j))=ι (i+j)
 | _,[],_,_,_,h=>by simp at h
 | i,a :: r,j,z,es,h=>by
  cases j with
  | zero =>simp at h;subst h;exact ⟨by simp[qw,upd],by simp[qv,upd]⟩
  | succ j =>
   have ih:=zbs ι (i+1) r j z es (by simpa using h);rw[show i+1+j=i+(j+1) by omega] at ih;have ah:inS 1000 (i+(j+1))≠inS 1000 i:=fun e=>by have:=inS_inj e;omega
   cases a with
   | own z' aX=>exact ⟨by simp only[qw,jC _ _ _ ah];exact ih.1,by simp only[qv,jC _ _ _ ah];exact ih.2⟩
   | _=>exact ih
def zfL (s:Nat):∀ (cs:List AV) (i j:Nat) (y:AV),(jI s i cs)[j]? = some y->∃ x,cs[j]? = some x∧y=(match x with | .own z es=>.lsl (inS s (i+j)) z 0 (List.length es) | x=>x)
 | [],_,_,_,h=>by simp[jI] at h
 | x :: r,i,j,y,h=>by
  simp only[jI] at h;cases j with
  | zero=>simp only[BT,Option.some.injEq] at h;exact ⟨x,rfl,h.symm⟩
  | succ j =>obtain ⟨x',h1,h2⟩:=zfL s r (i+1) j y (by simpa only[AN] using h);rw[show i+1+j=i+(j+1) by omega] at h2;exact ⟨x',by simpa using h1,h2⟩
def zfK (s:Nat):∀ (cs:List AV) (i:Nat),(jI s i cs).length=cs.length
 | [],_=>rfl
 | x :: r,i=>by simp only[jI,AK,zfK s r (i+1)]
def hndO (b:Nat) (ι:Nat->Option Nat) (el:TypeId) (m:Nat):Hnd:=⟨Foot b ι,fun _=>none,fun s=>if s=1000 then some (b,el,m) else none⟩
def enterO_ok {cs args:List AV} {vs:Array Value} {b m:Nat} {el:TypeId} {ι:Nat->Option Nat} (hl:vs.size=args.length+1) (hv:vs.getD 0 undef=.pointer (some ⟨b,0,none⟩)) (hA:(∀ c,A c->c < w.heap.size)∧Inv S w) (hf:FootOk S A w b ι)
  (ho:zjj S A w b ι cs el m) (hn:∀ x∈args,zm x=false) (ha:∀ (i:Nat) (x:AV),args[i]? = some x->VR0 S A w x (vs.getD (i+1) undef)) (q:Nat) :
  SRel S A (hndO b ι el m) w A (upd (qv ι 0 cs) 1000 (some b)) w (qz cs args) (vs++Array.replicate q undef):=by
 obtain ⟨ob,o1,o2,o3,o4⟩:=ho;have cT:∀ j,inS 1000 j≠1000:=fun j=>by simp only[inS];omega
 have site:∀ s,(s=1000∧(qz cs args).hp s=some (.var (jI 1000 0 cs))∧upd (qv ι 0 cs) 1000 (some b) s=some b)∨((qz cs args).hp s=none∧upd (qv ι 0 cs) 1000 (some b) s=none) ∨
   ∃ j z es,cs[j]? = some (.own z es)∧s=inS 1000 j∧(qz cs args).hp s=some (.arr z es)∧upd (qv ι 0 cs) 1000 (some b) s=ι j:=by
  intro s;by_cases e:s=1000
  ·subst e;exact .inl ⟨rfl,by simp[qz,upd],by simp[upd]⟩
  ·have e1:(qz cs args).hp s=qw 0 cs s:=by simp only[qz,upd,if_neg e]
   rw[e1,jC _ _ _ e];rcases zbV ι 0 cs s with h | ⟨j,z,es,h1,h2,h3,h4⟩
   ·exact .inr (.inl h)
   ·rw[AL] at h2 h4;exact .inr (.inr ⟨j,z,es,h1,h2,h3,h4⟩)
 have hσ:∀ j z es,cs[j]? = some (.own z es)->upd (qv ι 0 cs) 1000 (some b) (inS 1000 j)=ι j∧(qz cs args).hp (inS 1000 j)=some (.arr z es):=(by intro j z es hj;obtain ⟨k1,k2⟩:=zbs ι 0 cs j z es hj;rw[AL] at k1 k2;exact ⟨(jC _ _ _ (cT j)).trans k2,by simp only[qz,upd,if_neg (cT j)];exact k1⟩);have aV:∀ (j:Nat) (y:AV),(jI 1000 0 cs)[j]? = some y->VR S A (upd (qv ι 0 cs) 1000 (some b)) w y (ob.getD j undef)∧∀ s∈y.refs,(qz cs args).hp s≠none:=by
  intro j y hy;obtain ⟨x,hx,rfl⟩:=zfL 1000 cs 0 j y hy;rw[AL];have hr:=o4 j x hx;by_cases hw:∃ z es,x=.own z es
  ·obtain ⟨z,es,rfl⟩:=hw;obtain ⟨k1,k2⟩:=hσ j z es hx;exact ⟨(qJ (show z7 S A w (ι j) z es _ from hr) k1).1,fun s hs=>by rw[AV.refs,Ai] at hs;subst hs;rw[k2];simp⟩
  ·have h0:=wn hr (by cases x<;>first | rfl | exact absurd ⟨_,_,rfl⟩ hw)
   clear hy hr hx;cases x with
   | own z es=>exact absurd ⟨_,_,rfl⟩ hw
   | _=>exact ⟨.of0 h0.2,fun s hs=>(q9 h0.2 s hs).elim⟩
 have aZ:∀ k,(k=0∧(qz cs args).fr k=.pv 1000 0)∨(qz cs args).fr k=.bot∨VR0 S A w ((qz cs args).fr k) ((vs++Array.replicate q undef).getD k undef):=by
  intro k;by_cases e:k=0
  ·subst e;exact .inl ⟨rfl,by simp[qz,upd]⟩
  ·right;have e1:(qz cs args).fr k=qe [] 1 args k:=by simp only[qz,upd,if_neg e]
   rw[e1];rcases zax [] 1 args k hn with h | ⟨h1,h⟩
   ·exact .inl h
   ·refine .inr ?_;have:=ha (k - 1) _ h;rw[show k - 1+1=k by omega] at this;have hk:k < vs.size:=by have:=(Aa.1 h).1;omega
    rw[show (vs++Array.replicate q undef).getD k undef=vs.getD k undef by rw[Aj,Bq hk,Aj]];exact this
 have gX:(vs++Array.replicate q undef).getD 0 undef=.pointer (some ⟨b,0,none⟩):=(by rw[← hv,Aj,Bq (by omega),Aj]);refine ⟨fun k => ?_,fun s blk hb => ?_,fun k s hs => ?_,fun s an hs s' ae => ?_,fun s c hs => ?_,fun s s' c h1 h2 => ?_,hA.1,fun c hc=>.inl hc,.refl _ _,⟨fun s e he=>(by cases he),fun s b' bJ m' he => ?_⟩,fun c hc=>(hf.lt c hc).1,fun p hp hc=>(hf.lt p hc).2.2 p hp rfl,hA.2⟩
 ·rcases aZ k with ⟨rfl,h⟩ | h | h
  ·rw[h,gX];exact .pv (by simp[upd])
  ·rw[h];exact .of0 (.bot _)
  ·exact .of0 h
 ·rcases site s with ⟨rfl,h1,h2⟩ | ⟨h1,_⟩ | ⟨j,z,es,h1,h2,h3,h4⟩
  ·rw[h1] at hb;cases hb;exact ⟨b,ob,el,h2,o1,by rw[zfK];omega,fun i x hx=>(aV i x hx).1⟩
  ·rw[h1] at hb;cases hb
  ·rw[h3] at hb;cases hb;exact (qJ (show z7 S A w (ι j) z es _ from o4 j _ h1) h4).2
 ·rcases aZ k with ⟨rfl,h⟩ | h | h
  ·rw[h,AV.refs,Ai] at hs;subst hs;simp[qz,upd]
  ·rw[h] at hs;simp[AV.refs] at hs
  ·exact (q9 h s hs).elim
 ·rcases site s with ⟨rfl,h1,h2⟩ | ⟨h1,_⟩ | ⟨j,z,es,h1,h2,h3,h4⟩
  ·rw[h1] at hs;cases hs;obtain ⟨x,hx,b9⟩:=zd.1 ae;obtain ⟨i,hi⟩:=Ay.1 hx;exact (aV i x hi).2 s' b9
  ·rw[h1] at hs;cases hs
  ·rw[h3] at hs;cases hs
 ·rcases site s with ⟨rfl,h1,h2⟩ | ⟨_,h1⟩ | ⟨j,z,es,h1,h2,h3,h4⟩
  ·rw[h2] at hs;cases hs;exact ⟨by rw[h1];simp,(hf.lt b (.inl rfl)).1,(hf.lt b (.inl rfl)).2.1,.inr (.inl rfl)⟩
  ·rw[h1] at hs;cases hs
  ·rw[h4] at hs;exact ⟨by rw[h3];simp,(hf.lt c (.inr ⟨j,hs⟩)).1,(hf.lt c (.inr ⟨j,hs⟩)).2.1,.inr (.inr ⟨j,hs⟩)⟩
 ·rcases site s with ⟨rfl,_,e1⟩ | ⟨_,e1⟩ | ⟨j,z,es,_,e0,_,e1⟩<;>rcases site s' with ⟨rfl,_,e2⟩ | ⟨_,e2⟩ | ⟨j',z',aX,_,e0',_,e2⟩
  ·rfl
  ·rw[e2] at h2;cases h2
  ·rw[e1] at h1;cases h1;rw[e2] at h2;exact absurd h2 (hf.ne j')
  ·rw[e1] at h1;cases h1
  ·rw[e1] at h1;cases h1
  ·rw[e1] at h1;cases h1
  ·rw[e2] at h2;cases h2;rw[e1] at h1;exact absurd h1 (hf.ne j)
  ·rw[e2] at h2;cases h2
  ·rw[e1] at h1;rw[e2] at h2;rw[e0,e0',hf.inj j j' c h1 h2]
 ·simp only[hndO] at he;split at he
  ·rename_i e;subst e;cases he;exact ⟨rfl,by simp[upd],⟨_,by simp[qz,upd];rfl⟩,ob,o1,o2⟩
  ·cases he
def partsR_of {β:Nat->Option Nat} {ys:List AV} {vs:Array Value} (hl:ys.length=vs.size) (hβ:∀ i,ys.length<=i->β i=none) (ha:∀ (i:Nat) (x:AV),ys[i]? = some x->yA S A w' (β i) x (vs.getD i undef)):qY S A w' β (zH ys) (if h:vs.size=1 then vs[0] else .tuple vs):=by
 by_cases h1:vs.size=1
 ·rw[dif_pos h1];have e:vs[0]=vs.getD 0 undef:=by simp[Array.getD,h1]
  match ys,hl,ha,hβ with
  | [x],_,ha,hβ =>
   have hx:=ha 0 x rfl;rw[← e] at hx;rw[show zH [x]=x from rfl];by_cases ht:∃ rs,x=.tup rs
   ·obtain ⟨rs,rfl⟩:=ht;have cm:β 0=none∧VR0 S A w' (.tup rs) vs[0]:=hx;obtain ⟨aC,cm⟩:=cm;have hn:∀ i,β i=none:=fun i=>by
     cases i with
     | zero=>exact aC
     | succ i=>exact hβ (i+1) (by simp)
    generalize vs[0]=v at cm;cases cm with
    | tup q1 q2=>exact ⟨_,rfl,q1,fun i y hy=>by rw[hn];exact qM (q2 i y hy)⟩
   ·cases x with
    | tup rs=>exact absurd ⟨rs,rfl⟩ ht
    | _=>exact hx
  | [],hl,_,_=>simp at hl;omega
  | _ :: _ :: _,hl,_,_=>simp at hl;omega
 ·rw[dif_neg h1];have e:zH ys=.tup ys:=by
   match ys,hl with
   | [],_=>rfl
   | [x],hl=>simp at hl;omega
   | _ :: _ :: _,_=>rfl
  rw[e];exact ⟨vs,rfl,hl,ha⟩
def ziR (σ:Nat->Option Nat) (l:List AV) (i:Nat):Option Nat:=match l[i]? with | some (.lsl s _ _ _)=>σ s | _=>none
def wT (σ:Nat->Option Nat) (rs cs:List AV) (k:Nat):Option Nat:=if k % 2=0 then ziR σ rs (k / 2) else ziR σ cs (k / 2)
def zdl {σ:Nat->Option Nat} {rs cs:List AV} (i:Nat):wT σ rs cs (2 * i)=ziR σ rs i:=by simp[wT]
def zgr {σ:Nat->Option Nat} {rs cs:List AV} (j:Nat):wT σ rs cs (2 * j+1)=ziR σ cs j:=by
 have h1:¬ (2 * j+1) % 2=0:=by omega
 have h2:(2 * j+1) / 2=j:=by omega
 simp only[wT,if_neg h1,h2]
def zfB {σ:Nat->Option Nat} {l:List AV} {i b:Nat} (h:ziR σ l i=some b):∃ s z o n,l[i]? = some (.lsl s z o n)∧σ s=some b:=by
 unfold ziR at h;split at h
 ·exact ⟨_,_,_,_,by assumption,h⟩
 ·cases h
def zby {σ:Nat->Option Nat} {rs cs:List AV} {k b:Nat} (h:wT σ rs cs k=some b):∃ s z o n,(rs[k / 2]? = some (.lsl s z o n)∧k % 2=0∨cs[k / 2]? = some (.lsl s z o n)∧k % 2=1)∧σ s=some b:=by
 unfold wT at h;split at h
 ·obtain ⟨s,z,o,n,h1,h2⟩:=zfB h;exact ⟨s,z,o,n,.inl ⟨h1,by assumption⟩,h2⟩
 ·obtain ⟨s,z,o,n,h1,h2⟩:=zfB h;exact ⟨s,z,o,n,.inr ⟨h1,by omega⟩,h2⟩
def wX (h:SRel S A0 O w0 A σ w' st tm) {A':Nat->Prop} (hA:∀ c,A c->A' c) {rs ys:List AV} {us:Array Value} (hg:∀ (i:Nat) (x:AV),rs[i]? = some x->VR S A σ w' x (us.getD i undef)) (hy:zb (zS st) rs=some ys) :
  ys.length=rs.length∧(∀ i,ys.length<=i->ziR σ rs i=none)∧∀ (i:Nat) (y:AV),ys[i]? = some y->yA S A' w' (ziR σ rs i) y (us.getD i undef):=by
 obtain ⟨d1,d2⟩:=zk hy;refine ⟨d1.symm,fun i hi => ?_,fun i y hy => ?_⟩
 ·have:rs[i]? = none:=List.getElem?_eq_none_iff.2 (by omega);simp only[ziR,this]
 ·obtain ⟨x0,az,aC⟩:=d2 i y hy;rcases yt aC with ⟨s,z,es,rfl,hb,rfl⟩ | ⟨hr,rfl⟩
  ·have e:ziR σ rs i=σ s:=by simp only[ziR,az]
   rw[e];exact z7.mono hA (zaQ h (hg i _ az) hb)
  ·have e:ziR σ rs i=none:=by
    simp only[ziR,az];split
    ·rename_i e;cases e;simp[AV.refs] at hr
    ·rfl
   rw[e];exact qM (((hg i y az).to0 hr).mono hA fun _ _=>rfl)
def zgs (h:SRel S A0 O w0 A σ w' st tm) {rs cs:List AV} (hn:zC (AV.refsL rs++AV.refsL cs)=true) {i j c:Nat} (hi:wT σ rs cs i=some c) (hj:wT σ rs cs j=some c):i=j:=by
 obtain ⟨s,z,o,n,h1,h2⟩:=zby hi;obtain ⟨s',z',o',n',dW,fA⟩:=zby hj;obtain rfl:=h.inj s s' c h2 fA;obtain ⟨n1,n2⟩:=jJ _ _ hn;have n0:zC (AV.refsL rs)=true:=by
  have:∀ a b:List Nat,zC (a++b)=true->zC a=true:=by
   intro a b
   induction a with
   | nil=>intro _;rfl
   | cons x a ih =>intro h;simp only[As,zC,Ak,AJ,AP,decide_eq_false_iff_not,Ao] at h ⊢;exact ⟨fun h'=>h.1 (.inl h'),ih h.2⟩
  exact this _ _ hn
 have mem:∀ {l:List AV} {k z o n:Nat},l[k]? = some (.lsl s z o n)->s∈AV.refsL l:=fun h=>zd.2 ⟨_,Ae h,by simp[AV.refs]⟩;rcases h1 with ⟨h1,m1⟩ | ⟨h1,m1⟩<;>rcases dW with ⟨dW,m1'⟩ | ⟨dW,m1'⟩
 ·have:=zcd rs _ _ _ _ s n0 h1 dW (by simp[AV.refs]) (by simp[AV.refs]);omega
 ·exact (n2 s (mem h1) (mem dW)).elim
 ·exact (n2 s (mem dW) (mem h1)).elim
 ·have:=zcd cs _ _ _ _ s n1 h1 dW (by simp[AV.refs]) (by simp[AV.refs]);omega
def zdm {rs cs ys zs:List AV} (h1:zb (zS st) rs=some ys) (h2:zb (zS st) cs=some zs) {k c:Nat} (hk:wT σ rs cs k=some c):∃ s z es,σ s=some c∧st.hp s=some (.arr z es):=by
 obtain ⟨s,z,o,n,hq,hs⟩:=zby hk;have one:∀ {l us:List AV} {i:Nat},zb (zS st) l=some us->l[i]? = some (.lsl s z o n)->∃ s z es,σ s=some c∧st.hp s=some (.arr z es):=by
  intro l us i h hi;obtain ⟨d1,d2⟩:=zk h;have aq:i < us.length:=by have:=(Aa.1 hi).1;omega
  obtain ⟨x0,az,aC⟩:=d2 i _ (Ac aq);rw[hi] at az;cases az;rcases yt aC with ⟨s',z',es,e,hb,_⟩ | ⟨hr,_⟩
  ·cases e;exact ⟨_,_,es,hs,hb⟩
  ·simp[AV.refs] at hr
 rcases hq with ⟨hq,_⟩ | ⟨hq,_⟩
 ·exact one h1 hq
 ·exact one h2 hq
def zi8 {b m:Nat} {el:TypeId} {ι:Nat->Option Nat} (h:SRel S A (hndO b ι el m) w A0 σ w' st tm) {res:List ARes} {fn:Func} (h1:zb (cRes S.P) fn.results.toList=some res) {r:AV} {an:List AV} (he:zcR res st=some (r,an)) :
  ∃ v β,(results fn tm).run S.P w'=.ok v w'∧(∀ i c,β i=some c->(w.heap.size<=c∨qI ι c)∧c < w'.heap.size)∧(∀ i j c,β i=some c->β j=some c->i=j) ∧
   zjj S (zI (fun c=>A c∨qI ι c) β w w') w' b (fun j=>β (2 * j+1)) an el m∧qY S (zI (fun c=>A c∨qI ι c) β w w') w' (fun i=>β (2 * i)) r v:=by
 unfold zcR at he;split at he
 ·rename_i rs ch gi fu;split at he
  ·rename_i hnd;split at he
   ·rename_i ys cs bX aj;simp only[Option.some.injEq,Prod.mk.injEq] at he;obtain ⟨rfl,rfl⟩:=he;obtain ⟨us,k1,k2,k3⟩:=wZ h h1 gi;obtain ⟨_,p2,_,ob0,p4,p5⟩:=h.kp.2 1000 b el m (by simp[hndO]);obtain ⟨b',ob,bJ,m1,m2,m3,m4⟩:=h.hp _ _ fu;obtain rfl:b'=b:=Option.some.inj (m1.symm.trans p2);rw[p4] at m2;cases m2;have hβ:∀ k c,wT σ rs ch k=some c->(w.heap.size<=c∨qI ι c)∧c < w'.heap.size∧¬ A0 c:=by
     intro k c hk;obtain ⟨s,z,es,q1,q2⟩:=zdm bX aj hk;obtain ⟨_,d2,d3,d4⟩:=h.dom s c q1;refine ⟨?_,d2,d3⟩;rcases d4 with d4 | d4 | d4
     ·exact .inl d4
     ·subst d4;rw[h.inj s 1000 c q1 p2,fu] at q2;cases q2
     ·exact .inr d4
    have hA:∀ c,A0 c->zI (fun c=>A c∨qI ι c) (wT σ rs ch) w w' c:=fun c hc=>by
     refine ⟨?_,h.Alt c hc,fun k hk=>(hβ k c hk).2.2 hc⟩;rcases h.Asub c hc with q | q | q | q
     ·exact .inl (.inl q)
     ·exact .inr q
     ·subst q;exact absurd hc (h.dom 1000 c p2).2.2.1
     ·exact .inl (.inr q)
    obtain ⟨e1,e2,e3⟩:=wX h hA (fun i x hx=>(k3 i x hx).rel) bX;obtain ⟨f1,f2,f3⟩:=wX h hA m4 aj;refine ⟨_,wT σ rs ch,k1,fun i c hc=>⟨(hβ i c hc).1,(hβ i c hc).2.1⟩,fun i j c hi hj=>zgs h hnd hi hj,⟨_,p4,p5,by omega,fun j x hx => ?_⟩,partsR_of (by omega) (fun i hi => ?_) fun i x hx => ?_⟩
    ·show yA S _ w' (wT σ rs ch (2 * j+1)) x _;rw[zgr];exact f3 j x hx
    ·show wT σ rs ch (2 * i)=none;rw[zdl];exact e2 i hi
    ·show yA S _ w' (wT σ rs ch (2 * i)) x _;rw[zdl];exact e3 i x hx
   ·cases he
  ·cases he
 ·cases he
def zec {id:Nat} {fn:Func} {f:AFunc} (hc:zaB S id fn=some f):∃ c,fn.body=some c∧ya S fn.ntmps c=some f.body∧zb (cRes S.P) fn.results.toList=some f.res∧f.np<=fn.ntmps:=by
 unfold zaB at hc;split at hc
 ·rename_i body res bn aE;split at hc
  ·rename_i aw;cases hc;cases cW:fn.body with
   | none=>simp[cW] at bn
   | some c=>simp[cW] at bn;exact ⟨c,rfl,bn,aE,aw.1⟩
  ·cases hc
 ·cases hc
def zhb (hS:qd S) {g id:Nat} {fn:Func} {f:AFunc} (hg:S.P.funcs[g]? = some fn) (hc:zaB S id fn=some f) (hD:zR f.body=true∨jd S) {cs args:List AV} {r:AV} {an:List AV}
  (hb:BodyO (za S) f cs args r an):RealO S g cs args r an:=by
 obtain ⟨c,cW,fx,aE,ew⟩:=zec hc;obtain ⟨hlen,bC,e,aa,hex,dq,ax⟩:=hb;intro A w vs b ι el m hl hv hA hf hJ ho ha;refine calls_of_wp hg cW (wp_mono (Stm.wp (zac hS hex hD fx ⟨w,.refl S w,hJ,enterO_ok hl hv hA hf ho bC ha _⟩ (by simp;omega))) ?_);rintro ex a w' ⟨q1,q2,q3,A',σ',w2,r2,j2,q4⟩;have bq:=r2.keep q4.keep;have hj:S.jn w':=(q4.jpreA j2).jn;obtain ⟨v,β,k1,k2,k3,k4,k5⟩:=zi8 q4 aE ax;have e:zI (fun c=>A c∨qI ι c) β w2 w'=zI (fun c=>A c∨qI ι c) β w w':=by funext c;simp only[zI,r2.size]
 rw[e] at k4 k5;rw[r2.size] at k2
 have fin:bodyPost S.P fn (fun e w'=>∃ v β,e=.returned v∧KeepO (fun c=>Foot b ι c∨S.jg c) w w'∧S.jn w'∧(∀ i c,β i=some c->(w.heap.size<=c∨qI ι c)∧c < w'.heap.size)∧(∀ i j c,β i=some c->β j=some c->i=j) ∧
   zjj S (zI (fun c=>A c∨qI ι c) β w w') w' b (fun j=>β (2 * j+1)) an el m∧qY S (zI (fun c=>A c∨qI ι c) β w w') w' (fun i=>β (2 * i)) r v) ex a w':=by
  subst q1;rcases dq with rfl | rfl
  ·exact ⟨q2,v,k1,v,β,rfl,bq,hj,k2,k3,k4,k5⟩
  ·exact ⟨q2,v,k1,v,β,rfl,bq,hj,k2,k3,k4,k5⟩
 exact fin
def zhc (hS:qd S) {g id:Nat} {fn:Func} {f:AFunc} (hg:S.P.funcs[g]? = some fn) (hc:zaB S id fn=some f) (hD:zR f.body=true∨jd S) {args rs cs:List AV}
  (hb:BodyN (za S) f args rs cs):RealN S g args rs cs:=by
 obtain ⟨c,cW,fx,aE,ew⟩:=zec hc;obtain ⟨hlen,bC,e,aa,hex,dq,ax⟩:=hb;intro A w vs hl hA hJ ha;have bd:qi [] 0 args=true:=by
  have:∀ (i:Nat) (l:List AV),(∀ x∈l,zm x=false)->qi [] i l=true:=by
   intro i l
   induction l generalizing i with
   | nil=>intro _;rfl
   | cons a l ih=>intro h;simp only[qi,h a Ah,zj,BJ,Ci,B9,BEq.rfl,A4];exact ih (i+1) fun x hx=>h x (Ad _ hx)
  exact this 0 args bC
 refine calls_of_wp hg cW (wp_mono (Stm.wp (zac hS hex hD fx ⟨w,.refl S w,hJ,zid bd hl hA ha _⟩ (by simp;omega))) ?_);rintro ex a w' ⟨q1,q2,q3,A',σ',w2,r2,j2,q4⟩;have bq:=r2.keep q4.keep;have bq:KeepO S.jg w w':=⟨bq.os,bq.tape,bq.output,bq.size,fun k hk hn=>bq.block k hk fun e=>e.elim (fun e=>e) hn⟩;have hj:S.jn w':=(q4.jpreA j2).jn;unfold zeS at ax;split at ax
 ·rename_i s r0 iE gi;split at ax
  ·rename_i ch fu;split at ax
   ·rename_i hnd;split at ax
    ·rename_i ys ll bX aj;simp only[Option.some.injEq,Prod.mk.injEq] at ax;obtain ⟨rfl,rfl⟩:=ax;obtain ⟨us,k1,k2,k3⟩:=wZ q4 aE gi;obtain ⟨b,lV,hσ⟩:=(k3 0 _ rfl).rel.pv_inv;obtain ⟨b',ob,el,m1,m2,m3,m4⟩:=q4.hp _ _ fu;obtain rfl:b'=b:=Option.some.inj (m1.symm.trans hσ);have h1:¬ us.size=1:=by simp only[AK] at k2;omega
     rw[dif_neg h1] at k1
     let β:Nat->Option Nat:=fun k=>if k=0 then some b' else wT σ' (.bot :: r0 :: iE) ch k
     have fZ:zb (zS aa) (.bot :: r0 :: iE)=some (.bot :: ys):=(by simp only[zb] at bX ⊢;rw[bX];rfl);have hβs:∀ k c,β k=some c->∃ s',σ' s'=some c:=by
      intro k c hk;simp only[β] at hk;split at hk
      ·cases hk;exact ⟨s,hσ⟩
      ·obtain ⟨s',_,_,q,_⟩:=zdm fZ aj hk;exact ⟨s',q⟩
     have ku:∀ c,A' c->zI A β w w' c:=fun c hc=>by
      refine ⟨?_,q4.Alt c hc,fun k hk => ?_⟩
      ·rcases q4.Asub c hc with q | q | q
       ·exact .inl q
       ·exact .inr (by rw[← r2.size];exact q)
       ·exact q.elim
      ·obtain ⟨s',q⟩:=hβs k c hk;exact (q4.dom s' c q).2.2.1 hc
     have ml:zC (AV.refsL (.bot :: r0 :: iE)++AV.refsL ch)=true:=hnd;obtain ⟨e1,e2,e3⟩:=wX q4 ku (us:=us) (rs:=.bot :: r0 :: iE) (fun i x hx=>by
      cases i with
      | zero=>simp at hx;subst hx;exact .of0 (.bot _)
      | succ i=>exact (k3 (i+1) x (by simpa using hx)).rel) fZ
     obtain ⟨f1,f2,f3⟩:=wX q4 ku (us:=ob) m4 aj;have β0:∀ k,k≠0->β k=wT σ' (.bot :: r0 :: iE) ch k:=fun k hk=>if_neg hk
     have res:∃ us b β el m,Ending.returned (.tuple us)=Ending.returned (.tuple us)∧(results fn a.tmps).run S.P w'=.ok (.tuple us) w'∧KeepO S.jg w w'∧S.jn w'∧β 0=some b∧us.getD 0 undef=.pointer (some ⟨b,0,none⟩)∧(∀ i c,β i=some c->w.heap.size<=c∧c < w'.heap.size)∧(∀ i j c,β i=some c->β j=some c->i=j) ∧
       zjj S (zI A β w w') w' b (fun j=>β (2 * j+1)) ll el m∧ys.length+1=us.size∧∀ (i:Nat) (x:AV),ys[i]? = some x->yA S (zI A β w w') w' (β (2 * (1+i))) x (us.getD (1+i) undef):=by
      refine ⟨us,b',β,el,ob.size,rfl,k1,bq,hj,by simp[β],lV,fun i c hc => ?_,fun i j c hi hj => ?_,⟨ob,m2,rfl,by omega,fun j x hx => ?_⟩, ?_,fun i x hx => ?_⟩
      ·obtain ⟨s',q⟩:=hβs i c hc;obtain ⟨_,d2,_,d4⟩:=q4.dom s' c q;exact ⟨by rw[← r2.size];exact d4.resolve_right fun e=>e,d2⟩
      ·have ne:∀ k,k≠0->β k≠some b':=fun k hk hc=>(by rw[β0 k hk] at hc;obtain ⟨s',z,es,q,q2⟩:=zdm fZ aj hc;rw[q4.inj s' s b' q hσ,fu] at q2;cases q2);by_cases e1:i=0
       ·subst e1;by_cases e2:j=0
        ·exact e2.symm
        ·have:c=b':=by simp[β] at hi;exact hi.symm
         subst this;exact absurd hj (ne j e2)
       ·by_cases e2:j=0
        ·subst e2;have:c=b':=by simp[β] at hj;exact hj.symm
         subst this;exact absurd hi (ne i e1)
        ·rw[β0 i e1] at hi;rw[β0 j e2] at hj;exact zgs q4 ml hi hj
      ·show yA S _ w' (β (2 * j+1)) x _;rw[β0 _ (by omega),zgr];exact f3 j x hx
      ·simp only[AK] at e1 k2;omega
      ·rw[β0 _ (by omega),zdl,Nat.add_comm 1 i];exact e3 (i+1) x (by simpa using hx)
     obtain ⟨us,b,β,el,m,_,g1,g2⟩:=res
     have fin:bodyPost S.P fn (fun e w'=>∃ us b β el m,e=.returned (.tuple us)∧KeepO S.jg w w'∧S.jn w'∧β 0=some b∧us.getD 0 undef=.pointer (some ⟨b,0,none⟩)∧(∀ i c,β i=some c->w.heap.size<=c∧c < w'.heap.size)∧(∀ i j c,β i=some c->β j=some c->i=j) ∧
       zjj S (zI A β w w') w' b (fun j=>β (2 * j+1)) ll el m∧ys.length+1=us.size∧∀ (i:Nat) (x:AV),ys[i]? = some x->yA S (zI A β w w') w' (β (2 * (1+i))) x (us.getD (1+i) undef)) ex a w':=by
      subst q1;rcases dq with rfl | rfl
      ·exact ⟨q2,_,g1,us,b,β,el,m,rfl,g2⟩
      ·exact ⟨q2,_,g1,us,b,β,el,m,rfl,g2⟩
     exact fin
    ·cases ax
   ·cases ax
  ·cases ax
 ·cases ax
def okO_of (hS:qd S) {G:Nat->Option AFunc} (hG:∀ g id,qh g S.fns=some id->∀ f,G id=some f->∃ fn,S.P.funcs[g]? = some fn∧zaB S id fn=some f) (hD:∀ id f,G id=some f->zR f.body=true∨jd S):OkO G (za S):=by
 refine ⟨fun id f cs args r an hf hb g hg => ?_,fun id f args rs cs hf hb g hg => ?_⟩
 ·obtain ⟨fn,h1,h2⟩:=hG g id hg f hf;exact zhb hS h1 h2 (hD id f hf) hb
 ·obtain ⟨fn,h1,h2⟩:=hG g id hg f hf;exact zhc hS h1 h2 (hD id f hf) hb
end
end
section
def Ext (h h2:Nat->Option Blk):Prop:=∀ s b,h s=some b->h2 s=some b
def zgq {st ai:ASt} {n:Nat} {lo hi:Option AOpd} (h:∀ x∈lo.toList++hi.toList,st.ev x=ai.ev x):bounds st n lo hi=bounds ai n lo hi:=by cases lo<;>cases hi<;>simp_all[bounds]
def yl {α β:Type} {f g:α->Option β}:∀ {l:List α},(∀ x∈l,f x=g x)->zb f l=zb g l
 | [],_=>rfl
 | x :: r,h=>by
  simp only[zb];rw[h x Ah,yl fun y hy=>h y (Ad _ hy)]
def zhw {h h2:Nat->Option Blk} (he:Ext h h2) {x:AV} {p:List AV×Nat} (hc:cellsAt h x=some p):cellsAt h2 x=some p:=by
 cases x with
 | pv s off =>
  simp only[cellsAt] at hc ⊢;split at hc
  ·rename_i hb;rw[he _ _ hb];exact hc
  ·cases hc
 | pe s z i off =>
  simp only[cellsAt] at hc ⊢;split at hc
  ·rename_i hb;rw[he _ _ hb];exact hc
  ·cases hc
 | ep cs off=>exact hc
 | _=>cases hc
def zcp {h h2:Nat->Option Blk} (he:Ext h h2) {x y:AV} (hc:qn h x=some y):qn h2 x=some y:=by
 cases x with
 | pe s z i off =>
  simp only[qn] at hc ⊢;split at hc
  ·rename_i hb;rw[he _ _ hb];exact hc
  ·cases hc
 | lsl s z off len =>
  simp only[qn] at hc ⊢;split at hc
  ·rename_i hb;rw[he _ _ hb];exact hc
  ·cases hc
 | _=>exact hc
def jS {α β:Type} {f g:α->Option β} (h:∀ x y,f x=some y->g x=some y):∀ {l:List α} {ys:List β},zb f l=some ys->zb g l=some ys
 | [],_,hl=>hl
 | x :: r,ys,hl=>by
  simp only[zb] at hl ⊢;split at hl
  ·rename_i y bH h1 h2;rw[h x y h1,jS h h2];exact hl
  ·cases hl
def zaL {h h2:Nat->Option Blk} (he:Ext h h2) {x y:AV} (hc:qm h x=some y):qm h2 x=some y:=by
 cases x with
 | pv s off =>
  simp only[qm] at hc ⊢;split at hc
  ·rename_i hb;rw[he _ _ hb];split at hc
   ·rename_i aj;have:=jS (g:=qn h2) (fun _ _=>zcp he) aj;simp only[this];exact hc
   ·cases hc
  ·cases hc
 | agg cs =>
  simp only[qm] at hc ⊢;split at hc
  ·rename_i aj;rw[jS (g:=qn h2) (fun _ _=>zcp he) aj];exact hc
  ·cases hc
 | _=>simp only[qm] at hc ⊢;exact zcp he hc
def snap_ext {h h2:Nat->Option Blk} (he:Ext h h2) {x y:AV} (hc:wx h x=some y):wx h2 x=some y:=by
 cases x with
 | fn f cs =>
  simp only[wx] at hc ⊢;split at hc
  ·rename_i aj;rw[jS (g:=qm h2) (fun _ _=>zaL he) aj];exact hc
  ·cases hc
 | tup cs =>
  simp only[wx] at hc ⊢;split at hc
  ·rename_i aj;rw[jS (g:=qm h2) (fun _ _=>zaL he) aj];exact hc
  ·cases hc
 | agg cs =>
  simp only[wx] at hc ⊢;split at hc
  ·rename_i aj;rw[jS (g:=qm h2) (fun _ _=>zaL he) aj];exact hc
  ·cases hc
 | _=>simp only[wx] at hc ⊢;exact zaL he hc
def zbN {h h2:Nat->Option Blk} (he:Ext h h2):∀ (i:Nat) (l ys:List AV),zG h [] i l=some ys->zG h2 [] i l=some ys
 | _,[],_,hl=>hl
 | i,x :: r,ys,hl=>by
  simp only[zG,zj,BJ,Ci,B9,Am,if_false,Bm,if_true] at hl ⊢;split at hl
  ·rename_i y bH h1 h2;rw[snap_ext he h1,zbN he (i+1) r bH h2];exact hl
  ·cases hl
def zfl.ext {M:Rets} {f:Nat} {args:List AV} {st ai:ASt} {v:AV} (h:zfl M f args st v) (he:Ext st.hp ai.hp):zfl M f args ai v:=by obtain ⟨a,h1,h2⟩:=h;exact ⟨a,zbN he _ _ _ h1,h2⟩
def zgv {o:AOp} {d:Nat} {st ai st1:ASt} {v:AV} (hk:o.kind<=1) (hv:∀ x∈o.opds,st.ev x=ai.ev x) (he:o.kind=0∨Ext st.hp ai.hp) (h:aop o d st=some (v,st1)) :
  st1=st∧aop o d ai=some (v,ai):=by
 cases o with
 | load n x =>
  have fQ:=he.resolve_left (by simp[AOp.kind]);have e:=hv x (by simp[AOp.opds]);simp only[aop] at h ⊢;rw[← e];split at h
  ·rename_i hc;rw[zhw fQ hc];split at h
   ·rename_i hy;simp only[hy];cases h;exact ⟨rfl,rfl⟩
   ·cases h
  ·cases h
 | build zero ps =>
  have e:∀ p∈ps,st.ev p.2.2=ai.ev p.2.2:=fun p hp=>hv _ (by simp only[AOp.opds,Ap];exact ⟨p,hp,rfl⟩);simp only[aop] at h ⊢;split at h
  ·rename_i ps' eM;split at h
   ·rename_i cs aj;cases h;have eL:=(yl (f:=fun (p:Nat×Nat×AOpd)=>match (ai.ev p.2.2).cells with | some cs=>if cs.length=p.2.1 then some (p.1,cs) else none | none=>none) (fun p hp=>by simp only[← e p hp];rfl)).trans eM;refine ⟨rfl, ?_⟩
    erw [eL]
    simp only[aj]
   ·cases h
  ·cases h
 | lit z zero len ps =>
  have e:∀ p∈ps,st.ev p.2=ai.ev p.2:=fun p hp=>hv _ (by simp only[AOp.opds,Ap];exact ⟨p,hp,rfl⟩);simp only[aop] at h ⊢;split at h
  ·rename_i ps' eM;cases h;have eL:=(yl (f:=fun (p:Nat×AOpd)=>match (ai.ev p.2).cells with | some cs=>(match zb (qn fun _=>none) cs with | some cs=>if cs.length=z then some (p.1,cs) else none | none=>none) | none=>none) (fun p hp=>by simp only[← e p hp];rfl)).trans eM
   refine ⟨rfl, ?_⟩
   erw [eL]
  ·cases h
 | mkfn f xs =>have e:xs.map st.ev=xs.map ai.ev:=Al hv;simp only[aop] at h ⊢;rw[← e];cases h;exact ⟨rfl,rfl⟩
 | slc z x lo hi =>
  have e:=hv x (by simp[AOp.opds]);have eb:∀ n,bounds st n lo hi=bounds ai n lo hi:=fun n=>zgq fun y hy=>hv y (by simp only[AOp.opds];exact Ad _ hy);simp only[aop] at h ⊢;rw[← e];simp only[← eb]
  repeat' split at h
  all_goals (first | (cases h;done) | skip)
  all_goals simp_all
 | alloc=>simp[AOp.kind] at hk
 | bslice b=>cases b<;>simp[AOp.kind] at hk
 | store=>simp[AOp.kind] at hk
 | box=>simp[AOp.kind] at hk
 | mksl=>simp[AOp.kind] at hk
 | app=>simp[AOp.kind] at hk
 | call=>simp[aop] at h
 | calld=>simp[aop] at h
 | callo=>simp[aop] at h
 | mov x=>have e:=hv x (by simp[AOp.opds]);simp only[aop] at h ⊢;rw[← e];cases h;exact ⟨rfl,rfl⟩
 | ifc t x=>have e:=hv x (by simp[AOp.opds]);simp only[aop] at h ⊢;rw[← e];cases h;exact ⟨rfl,rfl⟩
 | chk x=>have e:=hv x (by simp[AOp.opds]);simp only[aop] at h ⊢;rw[← e];repeat' split at h;all_goals (first | (cases h;done) | simp_all)
 | eqn sl neg x=>have e:=hv x (by simp[AOp.opds]);simp only[aop] at h ⊢;rw[← e];repeat' split at h;all_goals (first | (cases h;done) | simp_all)
 | un op x=>have e:=hv x (by simp[AOp.opds]);simp only[aop] at h ⊢;rw[← e];repeat' split at h;all_goals (first | (cases h;done) | simp_all)
 | cvi k x=>have e:=hv x (by simp[AOp.opds]);simp only[aop] at h ⊢;rw[← e];repeat' split at h;all_goals (first | (cases h;done) | simp_all)
 | cvs x=>have e:=hv x (by simp[AOp.opds]);simp only[aop] at h ⊢;rw[← e];repeat' split at h;all_goals (first | (cases h;done) | simp_all)
 | fa off x=>have e:=hv x (by simp[AOp.opds]);simp only[aop] at h ⊢;rw[← e];repeat' split at h;all_goals (first | (cases h;done) | simp_all)
 | fld off n x=>have e:=hv x (by simp[AOp.opds]);simp only[aop] at h ⊢;rw[← e];repeat' split at h;all_goals (first | (cases h;done) | simp_all)
 | ext x i=>have e:=hv x (by simp[AOp.opds]);simp only[aop] at h ⊢;rw[← e];repeat' split at h;all_goals (first | (cases h;done) | simp_all)
 | len s x=>have e:=hv x (by simp[AOp.opds]);simp only[aop] at h ⊢;rw[← e];repeat' split at h;all_goals (first | (cases h;done) | simp_all)
 | bin k op x y=>have e:=hv x (by simp[AOp.opds]);have e2:=hv y (by simp[AOp.opds]);simp only[aop] at h ⊢;rw[← e,← e2];repeat' split at h;all_goals (first | (cases h;done) | simp_all)
 | eqa neg sh x y=>have e:=hv x (by simp[AOp.opds]);have e2:=hv y (by simp[AOp.opds]);simp only[aop] at h ⊢;rw[← e,← e2];repeat' split at h;all_goals (first | (cases h;done) | simp_all)
 | ia z x y=>have e:=hv x (by simp[AOp.opds]);have e2:=hv y (by simp[AOp.opds]);simp only[aop] at h ⊢;rw[← e,← e2];repeat' split at h;all_goals (first | (cases h;done) | simp_all)
 | ix x y=>have e:=hv x (by simp[AOp.opds]);have e2:=hv y (by simp[AOp.opds]);simp only[aop] at h ⊢;rw[← e,← e2];repeat' split at h;all_goals (first | (cases h;done) | simp_all)
 | max2 x y=>have e:=hv x (by simp[AOp.opds]);have e2:=hv y (by simp[AOp.opds]);simp only[aop] at h ⊢;rw[← e,← e2];repeat' split at h;all_goals (first | (cases h;done) | simp_all)
 | pick c x y=>have e0:=hv c (by simp[AOp.opds]);have e:=hv x (by simp[AOp.opds]);have e2:=hv y (by simp[AOp.opds]);simp only[aop] at h ⊢;rw[← e0,← e,← e2];repeat' split at h;all_goals (first | (cases h;done) | simp_all)
def zjh {o:AOp} {d:Nat} {st st1:ASt} {v:AV} (hk:o.kind=2∨o.kind=3) (h:aop o d st=some (v,st1)) :
  ∃ s blk,st1=st.setH s (some blk)∧(o.kind=2->st.hp s=none)∧∀ ai:ASt,ai.hp=st.hp->(∀ x∈o.opds,st.ev x=ai.ev x)->aop o d ai=some (v,ai.setH s (some blk)):=by
 cases o with
 | alloc zero =>
  simp only[aop] at h;split at h
  ·rename_i hd;cases h;exact ⟨d,_,rfl,fun _=>hd,fun ai h2 _=>by simp only[aop,h2,hd]⟩
  ·cases h
 | bslice b z zero len ps =>
  cases b with
  | true=>simp[AOp.kind] at hk
  | false =>
   simp only[aop] at h;split at h
   ·rename_i ps' hd eM;split at h
    ·rename_i hr;have bI:qT st ps=[]:=by simpa using hr
     rw[bI] at h;simp only[ASt.freezeL] at h;cases h;refine ⟨d,_,rfl,fun _=>hd,fun ai h2 hv => ?_⟩;have e:∀ p∈ps,st.ev p.2=ai.ev p.2:=fun p hp=>hv _ (by simp only[AOp.opds,Ap];exact ⟨p,hp,rfl⟩);have mb:qT ai ps=[]:=(by rw[← bI];unfold qT;congr 1;exact Al fun p hp=>(e p hp).symm);have eL:=(yl (f:=fun (p:Nat×AOpd)=>match (ai.ev p.2).cells with | some cs=>(match zb (qn st.hp) cs with | some cs=>if cs.length=z then some (p.1,cs) else none | none=>none) | none=>none) (fun p hp=>by simp only[← e p hp];rfl)).trans eM
     simp only[aop,h2,hd,mb,or_true,if_true,ASt.freezeL]
     erw [eL]
    ·cases h
   ·cases h
 | store z a x =>
  simp only[aop] at h
  repeat' split at h
  all_goals (first | (cases h;done) | skip)
  all_goals cases h
  all_goals
   refine ⟨_,_,rfl,by simp[AOp.kind],fun ai h2 hv => ?_⟩;have e1:=hv a (by simp[AOp.opds]);have e2:=hv x (by simp[AOp.opds]);simp only[aop,h2,← e1,← e2];simp_all
 | load=>simp[AOp.kind] at hk
 | box=>simp[AOp.kind] at hk
 | mksl z zero l c =>
  simp only[aop] at h;split at h
  ·rename_i n c' hd hl hc;split at h
   ·rename_i aw;cases h;refine ⟨d,_,rfl,fun _=>hd,fun ai h2 hv => ?_⟩;have e1:=hv l (by simp[AOp.opds]);have e2:=hv c (by simp[AOp.opds]);simp only[aop,h2,← e1,← e2,hd,hl,hc];rw[if_pos aw]
   ·cases h
  ·cases h
 | app=>simp[AOp.kind] at hk
 | call frz muts f args=>simp[aop] at h
 | calld=>simp[AOp.kind] at hk
 | _=>simp[AOp.kind] at hk
def ev_putO {st:ASt} {d:Option Nat} {v:AV} {x:AOpd} (h:∀ n,x=.t n->d≠some n):(st.putO d v).ev x=st.ev x:=by
 cases d with
 | none=>rfl
 | some d =>
  cases x with
  | t n =>have hn:n≠d:=fun e=>h n rfl (by rw[e]);simp only[ASt.putO,ASt.put,ASt.ev,upd,if_neg hn]
  | _=>rfl
def ev_setH {st:ASt} {s:Nat} {b:Option Blk} {x:AOpd}:(st.setH s b).ev x=st.ev x:=by cases x<;>rfl
def zau {st:ASt} {d:Option Nat} {v:AV}:(st.putO d v).hp=st.hp:=by cases d<;>rfl
def zaP {st:ASt} {d e:Option Nat} {v x:AV} (h:∀ n,d=some n->e≠some n):(st.putO d v).putO e x=(st.putO e x).putO d v:=by
 cases d with
 | none=>rfl
 | some d =>
  cases e with
  | none=>rfl
  | some e =>
   have hn:d≠e:=fun e'=>h d rfl (by rw[e']);simp only[ASt.putO,ASt.put];congr 1;funext k;simp only[upd];by_cases h1:k=e
   ·rw[if_pos h1,if_neg (fun e'=>hn (e'.symm.trans h1)),if_pos h1]
   ·rw[if_neg h1];by_cases h2:k=d
    ·rw[if_pos h2,if_pos h2]
    ·rw[if_neg h2,if_neg h2,if_neg h1]
def setH_putO {st:ASt} {d:Option Nat} {v:AV} {s:Nat} {b:Option Blk}:(st.putO d v).setH s b=(st.setH s b).putO d v:=by cases d<;>rfl
def gval_putO {st:ASt} {d:Option Nat} {v:AV} {g:Option (Nat×Bool)} (h:∀ t w,g=some (t,w)->d≠some t):bP (st.putO d v) g=bP st g:=by
 cases g with
 | none=>rfl
 | some p =>
  obtain ⟨t,w⟩:=p;have:(st.putO d v).fr t=st.fr t:=by
   cases d with
   | none=>rfl
   | some d =>have hn:t≠d:=fun e=>h t w rfl (by rw[e]);simp only[ASt.putO,ASt.put,upd,if_neg hn]
  simp only[bP,this]
def gval_setH {st:ASt} {s:Nat} {b:Option Blk} {g:Option (Nat×Bool)}:bP (st.setH s b) g=bP st g:=by
 cases g with
 | none=>rfl
 | some p=>rfl
def gval_hp {fr:Nat->AV} {hp hp2:Nat->Option Blk} {g:Option (Nat×Bool)}:bP ⟨fr,hp⟩ g=bP ⟨fr,hp2⟩ g:=by
 cases g with
 | none=>rfl
 | some p=>rfl
def n7 {d:Option Nat} {l:List Nat} (h:zdJ d l=false):∀ n,n∈l->d≠some n:=by intro n hn e;subst e;simp only[zdJ,AP,decide_eq_false_iff_not] at h;exact h hn
def zbd {o:AOper} {st:ASt} {d:Option Nat} {v:AV} (h:zdJ d o.seen=false):∀ x∈o.op.opds,(st.putO d v).ev x=st.ev x:=by intro x hx;refine ev_putO fun n e=>n7 h n ?_;subst e;simp only[AOper.seen,Ao,List.mem_filterMap];exact .inl ⟨_,hx,rfl⟩
def yH {o:AOper} {st:ASt} {d:Option Nat} {v:AV} (h:zdJ d o.seen=false):bP (st.putO d v) o.grd=bP st o.grd:=by refine gval_putO fun t w e=>n7 h t ?_;simp only[AOper.seen,Ao,e];exact .inr (Ai.2 rfl)
def zbb {M:Rets} {o:AOp} {d:Nat} {st st1:ASt} {v:AV} (hk:o.kind<=1) (h:qR M true o d st v st1) :
  st1=st∧∀ ai:ASt,(∀ x∈o.opds,st.ev x=ai.ev x)->(o.kind=0∨Ext st.hp ai.hp)->qR M true o d ai v ai:=by
 cases o with
 | call frz muts f args =>
  obtain rfl:muts=[]:=by
   match muts,hk with
   | [],_=>rfl
   | [k],hk=>simp only[AOp.kind] at hk;split at hk<;>omega
   | _ :: _ :: _,hk=>simp[AOp.kind] at hk
  simp only[qR,and_self,if_true] at h ⊢;obtain ⟨rfl,hc⟩:=h;refine ⟨rfl,fun ai hv he=>⟨trivial, ?_⟩⟩;have e:args.map st1.ev=args.map ai.ev:=Al hv;rw[← e];exact hc.ext (he.resolve_left (by simp[AOp.kind]))
 | calld frz x args =>
  simp only[qR,if_true] at h;split at h
  ·rename_i f caps hx;obtain ⟨rfl,hc⟩:=h;refine ⟨rfl,fun ai hv he => ?_⟩;have ex:=hv x (by simp[AOp.opds]);simp only[qR,if_true,← ex,hx];rw[← Al (f:=st1.ev) (g:=ai.ev) fun y hy=>hv y (by simp[AOp.opds,hy])];exact ⟨trivial,hc.ext (he.resolve_left (by simp[AOp.kind]))⟩
  ·exact h.elim
 | callo=>simp[AOp.kind] at hk
 | _ =>have h':aop _ d st=some (v,st1):=h;refine ⟨(zgv hk (fun _ _=>rfl) (.inr fun _ _ h=>h) h').1,fun ai hv he => ?_⟩;exact (zgv hk hv he h').2
def zha (i:Nat):zj [3000] i=false:=by
 simp only[zj,List.contains_cons,BJ,Bool.or_false,Cn,BK,beq_eq_false_iff_ne];by_cases h:i < 1000
 ·exact .inr ⟨by omega,by omega⟩
 ·refine .inl ?_;cases hb:Nat.blt i 1000 with
  | false=>rfl
  | true=>rw[Bz] at hb;exact absurd hb h
def zfT:∀ (i:Nat) (l:List AV),zY [3000] i l=[]
 | _,[]=>rfl
 | i,x :: r=>by simp only[zY,zha,Am,if_false,AA];exact zfT (i+1) r
def zgb:∀ (i:Nat) (l:List AV),zx [3000] i l=[]
 | _,[]=>rfl
 | i,x :: r=>by simp only[zx,zha,Cr,Am,if_false,AA];exact zgb (i+1) r
def zcN {d:Nat}:∀ {i:Nat} {l ys:List AV} {st st1:ASt},zbR d i l st=some (ys,st1)->st1.fr=st.fr∧Ext st.hp st1.hp∧∀ ai:ASt,ai.hp=st.hp->zbR d i l ai=some (ys,⟨ai.fr,st1.hp⟩)
 | i,[],ys,st,st1,h=>by
  simp only[zbR,Option.some.injEq,Prod.mk.injEq] at h;obtain ⟨rfl,rfl⟩:=h;exact ⟨rfl,fun _ _ h=>h,fun ai h2=>by simp only[zbR,← h2]⟩
 | i,x :: r,ys,st,st1,h=>by
  have other:(match zbR d (i+1) r st with | some (ys,aa)=>some (x :: ys,aa) | none=>none)=some (ys,st1)->(∀ ai:ASt,zbR d i (x :: r) ai=(match zbR d (i+1) r ai with | some (ys,aa)=>some (x :: ys,aa) | none=>none))->st1.fr=st.fr∧Ext st.hp st1.hp∧∀ ai:ASt,ai.hp=st.hp->zbR d i (x :: r) ai=some (ys,⟨ai.fr,st1.hp⟩):=by
   intro h hx;split at h
   ·rename_i bH aa e;cases h;obtain ⟨k1,k2,k3⟩:=zcN e;exact ⟨k1,k2,fun ai h2=>by rw[hx,k3 ai h2]⟩
   ·cases h
  cases x with
  | own z es =>
   simp only[zbR] at h;split at h
   ·rename_i bH aa e1 e2;cases h;obtain ⟨k1,k2,k3⟩:=zcN e2;refine ⟨k1,fun s b hb=>k2 s b ?_,fun ai h2 => ?_⟩
    ·simp only[ASt.setH,upd];split
     ·rename_i e;subst e;rw[e1] at hb;cases hb
     ·exact hb
    ·have:=k3 (ai.setH (d+10000 * (i+1)) (some (.arr z es))) (by simp only[ASt.setH,h2]);simp only[zbR,h2,e1,this];rfl
   ·cases h
  | _=>exact other h fun _=>rfl
def imp_spec {d:Nat} {r v:AV} {st st1:ASt} (h:imp d r st=some (v,st1)):st1.fr=st.fr∧Ext st.hp st1.hp∧∀ ai:ASt,ai.hp=st.hp->imp d r ai=some (v,⟨ai.fr,st1.hp⟩):=by
 cases r with
 | own z es =>
  simp only[imp] at h;split at h
  ·rename_i e;cases h;refine ⟨rfl,fun s b hb => ?_,fun ai h2=>by simp only[imp,h2,e,ASt.setH]⟩;simp only[ASt.setH,upd];split
   ·rename_i e';subst e';rw[e] at hb;cases hb
   ·exact hb
  ·cases h
 | tup vs =>
  simp only[imp] at h;split at h
  ·rename_i ys aa e;cases h;obtain ⟨k1,k2,k3⟩:=zcN e;exact ⟨k1,k2,fun ai h2=>by simp only[imp,k3 ai h2]⟩
  ·cases h
 | _ =>simp only[imp,Option.some.injEq,Prod.mk.injEq] at h;obtain ⟨rfl,rfl⟩:=h;exact ⟨rfl,fun _ _ h=>h,fun ai h2=>by simp only[imp,← h2]⟩
def callR3 {M:Rets} {frz:Bool} {f:Nat} {args:List AV} {d:Nat} {st st1:ASt} {v:AV}:yP M frz [3000] f args d st v st1↔∃ ak r,zG st.hp [3000] 0 args=some ak∧M.ret f ak r []∧imp d r st=some (v,st1):=by
 unfold yP;rw[zfT,zgb];constructor
 ·rintro ⟨ak,r,outs,s1,s2,h1,_,h3,h4,⟨_,h5,h6⟩,h7⟩;have ho:outs=[]:=List.map_eq_nil_iff.1 h5;subst ho;simp only[List.isEmpty_cons,Am,if_false,settle,or_true,if_true,Option.some.injEq] at h4;subst h4;simp only[yW,ASt.dropL,Option.some.injEq] at h6;subst h6;exact ⟨ak,r,h1,h3,h7⟩
 ·rintro ⟨ak,r,h1,h3,h7⟩;exact ⟨ak,r,[],st,st,h1,rfl,h3,by simp[settle],⟨rfl,rfl,rfl⟩,h7⟩
def zgL {M:Rets} {o:AOp} {d:Nat} {st st1:ASt} {v:AV} (hk:o.kind=2∨o.kind=3) (h:qR M true o d st v st1) :
  ∃ bZ,st1=⟨st.fr,bZ⟩∧(o.kind=2->Ext st.hp bZ)∧∀ ai:ASt,ai.hp=st.hp->(∀ x∈o.opds,st.ev x=ai.ev x)->qR M true o d ai v ⟨ai.fr,bZ⟩:=by
 have plain:(∃ s blk,st1=st.setH s (some blk)∧(o.kind=2->st.hp s=none)∧∀ ai:ASt,ai.hp=st.hp->(∀ x∈o.opds,st.ev x=ai.ev x)->qR M true o d ai v (ai.setH s (some blk))) ->
   ∃ bZ,st1=⟨st.fr,bZ⟩∧(o.kind=2->Ext st.hp bZ)∧∀ ai:ASt,ai.hp=st.hp->(∀ x∈o.opds,st.ev x=ai.ev x)->qR M true o d ai v ⟨ai.fr,bZ⟩:=by
  rintro ⟨s,blk,rfl,k1,k2⟩;refine ⟨_,rfl,fun hk s' b hb => ?_,fun ai h2 hv => ?_⟩
  ·simp only[ASt.setH,upd];split
   ·rename_i e;subst e;rw[k1 hk] at hb;cases hb
   ·exact hb
  ·have:=k2 ai h2 hv;simp only[ASt.setH,h2] at this;exact this
 cases o with
 | call frz muts f args =>
  obtain rfl:muts=[3000]:=by
   match muts,hk with
   | [],hk=>simp[AOp.kind] at hk
   | [k],hk =>
    simp only[AOp.kind] at hk;split at hk
    ·rename_i e;rw[Bg e]
    ·omega
   | _ :: _ :: _,hk=>simp[AOp.kind] at hk
  have hs:yP M frz [3000] f (args.map st.ev) d st v st1:=(by simpa[qR] using h);obtain ⟨ak,r,h1,h2,h3⟩:=callR3.1 hs;obtain ⟨k1,k2,k3⟩:=imp_spec h3;obtain ⟨fr1,kQ⟩:=st1;simp only at k1 k2 k3;subst k1;refine ⟨kQ,rfl,fun _=>k2,fun ai e2 hv => ?_⟩;have e:args.map st.ev=args.map ai.ev:=Al hv;have:yP M frz [3000] f (args.map ai.ev) d ai v ⟨ai.fr,kQ⟩:=callR3.2 ⟨ak,r,by rw[← e,e2];exact h1,h2,k3 ai e2⟩;simpa[qR] using this
 | calld=>simp[AOp.kind] at hk
 | callo=>simp[AOp.kind] at hk
 | _=>exact plain (zjh hk h)
def ASt.setHo (st:ASt):Option (Nat×Blk)->ASt
 | none=>st
 | some (d,b)=>st.setH d (some b)
def mk_op {M:Rets} {k:AOper} {st s1:ASt} (hm:k.op.isMk=true) (h:OpR M true k st s1) :
  ∃ (f:Option (Nat×Blk)) (v:AV),s1=(st.setHo f).putO k.dst v∧(∀ d b,f=some (d,b)->st.hp d=none) ∧
   ∀ x:ASt,(∀ y∈k.op.opds,st.ev y=x.ev y)->bP x k.grd=bP st k.grd->(∀ d b,f=some (d,b)->x.hp d=none)->OpR M true k x ((x.setHo f).putO k.dst v):=by
 rcases h with ⟨g,v,st1,hs,rfl⟩ | ⟨g,rfl⟩
 ·cases cx:k.op with
  | mksl z zero l c =>
   rw[cx] at hs;have hs:aop (.mksl z zero l c) (k.dst.getD 0) st=some (v,st1):=hs;simp only[aop] at hs;split at hs
   ·rename_i n c' hd hl hc;split at hs
    ·rename_i aw;cases hs;refine ⟨some (k.dst.getD 0,_),_,rfl,fun d b e=>by cases e;exact hd,fun x hv hg hx=>.inl ⟨hg.trans g,_,_, ?_,rfl⟩⟩;have e1:=hv l (by simp[AOp.opds]);have e2:=hv c (by simp[AOp.opds]);rw[cx];show aop (.mksl z zero l c) (k.dst.getD 0) x=_;simp only[aop,← e1,← e2,hx _ _ rfl,hl,hc];rw[if_pos aw];rfl
    ·cases hs
   ·cases hs
  | _=>rw[cx] at hm;cases hm
 ·exact ⟨none,ud,rfl,(fun d b e=>by cases e),fun x hv hg hx=>.inr ⟨hg.trans g,rfl⟩⟩
def zdQ {st:ASt} {d:Option Nat} {v:AV} {f:Option (Nat×Blk)}:(st.putO d v).setHo f=(st.setHo f).putO d v:=by
 cases f with
 | none=>rfl
 | some p=>exact setH_putO
def ziK {st:ASt} {f g:Option (Nat×Blk)} (h:∀ d b e c,f=some (d,b)->g=some (e,c)->d≠e):(st.setHo f).setHo g=(st.setHo g).setHo f:=by
 cases f with
 | none=>rfl
 | some p =>
  cases g with
  | none=>rfl
  | some q =>
   have ah:=h p.1 p.2 q.1 q.2 rfl rfl;simp only[ASt.setHo,ASt.setH,ASt.mk.injEq,true_and];funext k;simp only[upd];by_cases e1:k=q.1
   ·by_cases e2:k=p.1
    ·exact absurd (e2.symm.trans e1) ah
    ·rw[if_pos e1,if_neg e2,if_pos e1]
   ·by_cases e2:k=p.1
    ·rw[if_neg e1,if_pos e2,if_pos e2]
    ·rw[if_neg e1,if_neg e2,if_neg e2,if_neg e1]
def zic {st:ASt} {f:Option (Nat×Blk)} {x:AOpd}:(st.setHo f).ev x=st.ev x:=by
 cases f with
 | none=>rfl
 | some p=>exact ev_setH
def ou {st:ASt} {f:Option (Nat×Blk)} {g:Option (Nat×Bool)}:bP (st.setHo f) g=bP st g:=by
 cases f with
 | none=>rfl
 | some p=>exact gval_setH
def swap_mk {M:Rets} {k i:AOper} {st s1 s2:ASt} (hk:k.op.isMk=true) (hi:i.op.isMk=true) (p1:zdJ k.dst i.seen=false) (p2:zdJ i.dst k.seen=false) (ah:∀ n,k.dst=some n->i.dst≠some n) (h1:OpR M true k st s1) (h2:OpR M true i s1 s2):∃ fG,OpR M true i st fG∧OpR M true k fG s2:=by
 obtain ⟨f,v,rfl,f1,f2⟩:=mk_op hk h1;obtain ⟨g,u,rfl,g1,g2⟩:=mk_op hi h2;have hd:∀ d b e c,f=some (d,b)->g=some (e,c)->d≠e:=(by intro d b e c hf hg hde;subst hde;have:=g1 d c hg;rw[hf,zau] at this;simp[ASt.setHo,ASt.setH,upd] at this);refine ⟨(st.setHo g).putO i.dst u,g2 st (fun y hy=>by rw[zbd p1 y hy,zic]) (by rw[yH p1,ou]) (fun d b hg => ?_), ?_⟩
 ·have:=g1 d b hg;rw[zau] at this;cases f with
  | none=>exact this
  | some p =>have ah:=hd p.1 p.2 d b rfl hg;simpa[ASt.setHo,ASt.setH,upd,Ne.symm ah] using this
 ·have:=f2 ((st.setHo g).putO i.dst u) (fun y hy=>by rw[zbd p2 y hy,zic]) (by rw[yH p2,ou]) (fun d b hf=>by
   rw[zau];have h0:=f1 d b hf;cases g with
   | none=>exact h0
   | some p =>
    have ah:=hd d b p.1 p.2 hf rfl;simpa[ASt.setHo,ASt.setH,upd,ah] using h0)
  rw[zdQ,ziK (fun d b e c h1 h2=>(hd e c d b h2 h1).symm),zaP (fun n e1 e2=>ah n e2 e1)] at this;rw[zdQ];exact this
def swap {M:Rets} {k i:AOper} {st s1 s2:ASt} (hp:zcs k i=true) (h1:OpR M true k st s1) (h2:OpR M true i s1 s2):∃ fG,OpR M true i st fG∧OpR M true k fG s2:=by
 simp only[zcs,Ak,BS,beq_iff_eq,Bz,AJ] at hp;obtain ⟨⟨⟨hk,p1⟩,p2⟩,p3⟩:=hp;have ah:∀ n,k.dst=some n->i.dst≠some n:=(by intro n e1 e2;rw[e1,e2] at p3;simp[zdJ] at p3);rcases hk with hk | ⟨gv,cN⟩
 case inr=>exact swap_mk gv cN p1 p2 ah h1 h2
 have iX:k.op.kind<=1:=by omega
 -- k at a state that differs from st as i makes it differ
 have kat:∀ (vk:AV) (x:ASt),(∀ y∈k.op.opds,st.ev y=x.ev y)->bP x k.grd=bP st k.grd->(k.op.kind=0∨Ext st.hp x.hp)->s1=st.putO k.dst vk->(∃ vk,s1=st.putO k.dst vk∧OpR M true k x (x.putO k.dst vk)):=by
  intro vk x hv hg he _;rcases h1 with ⟨g,v,st1,hs,e⟩ | ⟨g,e⟩
  ·obtain ⟨rfl,q⟩:=zbb iX hs;exact ⟨v,e,.inl ⟨hg.trans g,v,x,q x hv he,rfl⟩⟩
  ·exact ⟨ud,e,.inr ⟨hg.trans g,rfl⟩⟩
 obtain ⟨vk,aK⟩:∃ vk,s1=st.putO k.dst vk:=by
  rcases h1 with ⟨g,v,st1,hs,e⟩ | ⟨g,e⟩
  ·obtain ⟨rfl,q⟩:=zbb iX hs;exact ⟨v,e⟩
  ·exact ⟨ud,e⟩
 have putinj:∀ v v':AV,st.putO k.dst v=st.putO k.dst v'->∀ y:ASt,y.putO k.dst v=y.putO k.dst v':=by
  intro v v' e y;cases hd:k.dst with
  | none=>rfl
  | some d =>rw[hd] at e;have:=congrArg (fun z:ASt=>z.fr d) e;simp only[ASt.putO,ASt.put,upd,if_true] at this;rw[this]
 have mH:bP s1 i.grd=bP st i.grd:=by rw[aK];exact yH p1
 have kY:∀ x∈i.op.opds,s1.ev x=st.ev x:=by rw[aK];exact zbd p1
 have cV:s1.hp=st.hp:=by rw[aK];exact zau
 rcases h2 with ⟨g2,vi,sx,e8,rfl⟩ | ⟨g2,rfl⟩
 ·by_cases hi:i.op.kind<=1
  ·obtain ⟨rfl,q⟩:=zbb hi e8;refine ⟨st.putO i.dst vi,.inl ⟨mH ▸ g2,vi,st,q st kY (.inr (cV ▸ fun _ _ h=>h)),rfl⟩, ?_⟩;obtain ⟨lG,e',au⟩:=kat vk (st.putO i.dst vi) (fun y hy=>(zbd p2 y hy).symm) (yH p2) (.inr (by rw[zau];exact fun _ _ h=>h)) aK;rw[e',zaP ah];exact au
  ·obtain ⟨bZ,rfl,hf,q⟩:=zgL (by omega) e8;refine ⟨(⟨st.fr,bZ⟩:ASt).putO i.dst vi,.inl ⟨mH ▸ g2,vi,_,q st cV.symm kY,rfl⟩, ?_⟩;obtain ⟨lG,e',au⟩:=kat vk ((⟨st.fr,bZ⟩:ASt).putO i.dst vi) (fun y hy=>by rw[zbd p2 y hy];cases y<;>rfl) (by rw[yH p2];exact gval_hp) (by
    by_cases h2:i.op.kind=2
    ·refine .inr ?_;rw[zau];intro s' b hb;exact hf h2 s' b (by rw[cV];exact hb)
    ·exact .inl (by omega)) aK
   have e3:(⟨s1.fr,bZ⟩:ASt)=(⟨st.fr,bZ⟩:ASt).putO k.dst lG:=by rw[e'];cases k.dst<;>rfl
   rw[e3,zaP ah];exact au
 ·refine ⟨st.putO i.dst ud,.inr ⟨mH ▸ g2,rfl⟩, ?_⟩;obtain ⟨lG,e',au⟩:=kat vk (st.putO i.dst ud) (fun y hy=>(zbd p2 y hy).symm) (yH p2) (.inr (by rw[zau];exact fun _ _ h=>h)) aK;rw[e',zaP ah];exact au
def front {M:Rets} {i:AOper} {R2:List AOper}:∀ (R1:List AOper) {st aa:ASt},(∀ k∈R1,zcs k i=true)->OpsR M true (R1++i :: R2) st aa->∃ s1,OpR M true i st s1∧OpsR M true (R1++R2) s1 aa
 | [],st,aa,_,h=>by
  cases h with
  | cv hq=>cases hq
  | cons h1 h2=>exact ⟨_,h1,h2⟩
 | k :: R1,st,aa,hp,h=>by
  cases h with
  | cv hq=>cases hq
  | cons h1 h2 =>obtain ⟨s1,q1,q2⟩:=front R1 (fun x hx=>hp x (Ad _ hx)) h2;obtain ⟨fG,q3,q4⟩:=swap (hp k Ah) h1 q1;exact ⟨fG,q3,.cons q4 q2⟩
def OpR.loud {M:Rets} {o:AOper} {st aa:ASt} (h:OpR M true o st aa):OpR M false o st aa:=by
 rcases h with ⟨g,v,st1,hs,e⟩ | h
 ·refine .inl ⟨g,v,st1, ?_,e⟩;generalize o.op=op at hs;cases op with
  | call frz muts f args =>
   simp only[qR,true_and] at hs;simp only[qR,Am,false_and,if_false];split at hs
   ·rename_i hm;subst hm;obtain ⟨rfl,hc⟩:=hs;exact hc.loud
   ·exact hs
  | calld frz x args =>
   simp only[qR,if_true] at hs;simp only[qR,Am,if_false];split at hs
   ·obtain ⟨rfl,hc⟩:=hs;exact hc.loud
   ·exact hs.elim
  | _=>exact hs
 ·exact .inr h
end
section
open Go Go.RowKit
def ot (acc:List Nat) (k:Nat):∀ (l:List Nat) (s:Nat),(l.foldl (fun s j=>s ||| (2 ^ j ||| acc.getD j 0)) s).testBit k=true->s.testBit k=true∨∃ j∈l,k=j∨(acc.getD j 0).testBit k=true
 | [],s,h=>.inl h
 | j :: l,s,h=>by
  simp only[Br] at h;rcases ot acc k l _ h with h | ⟨j',h1,h2⟩
  ·simp only[Nat.testBit_or,BS] at h;rcases h with h | h | h
   ·exact .inl h
   ·refine .inr ⟨j,Ah,.inl ?_⟩;rw[Nat.testBit_two_pow] at h;exact (of_decide_eq_true h).symm
   ·exact .inr ⟨j,Ah,.inr h⟩
  ·exact .inr ⟨j',Ad _ h1,h2⟩
def zdB (acc:List Nat) (o:AOper):List Nat:=acc++[o.aft.foldl (fun s j=>s ||| (2 ^ j ||| acc.getD j 0)) 0]
def ziA (l:List AOper) (b:List Nat) (n:Nat):Prop:=b.length=n∧∀ (i k:Nat) (o:AOper),i < n->l[i]? = some o->(b.getD i 0).testBit k=true->∃ j∈o.aft,k=j∨(j < i∧(b.getD j 0).testBit k=true)
def zal (l:List AOper):∀ (r p:List AOper) (acc:List Nat),l=p++r->(∀ (i j:Nat) (o:AOper),l[i]? = some o->j∈o.aft->j < i)->ziA l acc p.length->ziA l (r.foldl zdB acc) l.length
 | [],p,acc,h,_,hc=>by
  simp only[BN] at h;subst h;exact hc
 | o :: r,p,acc,h,ha,hc=>by
  have h':l=(p++[o])++r:=by rw[h];simp
  refine zal l r (p++[o]) _ h' ha ⟨by simp[zdB,hc.1],fun i k o' hi ho hb => ?_⟩;have hlen:=hc.1;by_cases aq:i < p.length
  ·have e:(zdB acc o).getD i 0=acc.getD i 0:=(by simp only[zdB,AF];rw[AM (by omega)]);rw[e] at hb;obtain ⟨j,h1,h2⟩:=hc.2 i k o' aq ho hb;refine ⟨j,h1,h2.imp id fun ⟨h3,h4⟩=>⟨h3, ?_⟩⟩;have e2:(zdB acc o).getD j 0=acc.getD j 0:=(by simp only[zdB,AF];rw[AM (by omega)]);rw[e2];exact h4
  ·have aQ:i=p.length:=by simp at hi;omega
   subst aQ;have fN:o'=o:=(by rw[h] at ho;simp at ho;exact ho.symm);subst fN;have e:(zdB acc o').getD p.length 0=o'.aft.foldl (fun s j=>s ||| (2 ^ j ||| acc.getD j 0)) 0:=(by simp only[zdB,AF];rw[A6 (by omega)];simp[hlen]);rw[e] at hb;rcases ot acc k _ _ hb with hb | ⟨j,h1,h2⟩
   ·simp at hb
   ·have hj:=ha p.length j o' (by rw[h];simp) h1;refine ⟨j,h1,h2.imp id fun h3=>⟨hj, ?_⟩⟩;have e2:(zdB acc o').getD j 0=acc.getD j 0:=(by simp only[zdB,AF];rw[AM (by omega)]);rw[e2];exact h3
def zfH {f:Nat->Nat->Bool}:∀ {l:List Nat},zhW f l=true->l.Pairwise fun a b=>f a b=true
 | [],_=>.nil
 | a :: r,h=>by
  simp only[zhW,Ak,Af] at h;exact .cons h.1 (zfH h.2)
def zge {l:List AOper} (h:zeT l=true) :
  (∀ (i j:Nat) (o:AOper),l[i]? = some o->j∈o.aft->j < i)∧(∀ i,i∈zhn l↔i < l.length) ∧
  (zhn l).Pairwise fun k i=>k≠i∧∀ (p o:AOper),l[k]? = some p->l[i]? = some o->i ∉ p.aft∧(((wU l).getD i 0).testBit k=true∨zcs p o=true):=by
 simp only[zeT,Ak] at h;obtain ⟨⟨⟨h1,h2⟩,h3⟩,h4⟩:=h;refine ⟨fun i j o ho hj => ?_,fun i=>⟨fun hi => ?_,fun hi => ?_⟩,(zfH h4).imp fun {k i} hp => ?_⟩
 ·have aq:i < l.length:=(Aa.1 ho).1;have:=Af.1 h1 i (Bc.2 aq);rw[ho] at this;simpa[Bz] using Af.1 this j hj
 ·simpa[Bz] using Af.1 h2 i hi
 ·have:=Af.1 h3 i (Bc.2 hi);simpa[AP] using this
 ·simp only[zif,Ak,AJ] at hp;refine ⟨fun e => ?_,fun p o hk hi => ?_⟩
  ·subst e;have:=hp.1;simp at this
  ·have:=hp.2;rw[hk,hi] at this;simp only[Ak,AJ,BS,AP,decide_eq_false_iff_not] at this;exact this
def ze7 {l:List AOper} (hc:ziA l (wU l) l.length) {L:Nat->Prop} (hL:∀ (i j:Nat) (o:AOper),L i->l[i]? = some o->j∈o.aft->L j) (hl:∀ (i j:Nat) (o:AOper),l[i]? = some o->j∈o.aft->j < i) :
  ∀ (n i k:Nat) (o:AOper),i < n->l[i]? = some o->(∀ j∈o.aft,L j)->((wU l).getD i 0).testBit k=true->L k:=by
 intro n
 induction n with
 | zero=>intro i k o hi;omega
 | succ n ih =>
  intro i k o hi ho ha hb;obtain ⟨j,h1,h2⟩:=hc.2 i k o (Aa.1 ho).1 ho hb;rcases h2 with rfl | ⟨h3,h4⟩
  ·exact ha _ h1
  ·have hj:j < l.length:=Nat.lt_trans h3 (Aa.1 ho).1;exact ih j k l[j] (by omega) (Ac hj) (fun j' bF=>hL j j' l[j] (ha j h1) (Ac hj) bF) h4
def zcA:∀ (l r:List Nat),l.Nodup->(∀ x∈l,x∈r)->l.length<=r.length
 | [],r,_,_=>BG _
 | a :: l,r,hn,h=>by
  have ha:=h a Ah;obtain ⟨h1,h2⟩:=List.nodup_cons.1 hn;have:=zcA l (r.erase a) h2 fun x hx=>(List.mem_erase_of_ne (show x≠a from fun e=>by subst e;exact h1 hx)).2 (h x (Ad _ hx));rw[List.length_erase_of_mem ha] at this;have hr:0 < r.length:=List.length_pos_of_mem ha;simp only[AK];omega
def nodup_le (n:Nat) (l:List Nat) (hn:l.Nodup) (h:∀ x∈l,x < n):l.length<=n:=by have:=zcA l (List.range n) hn fun x hx=>Bc.2 (h x hx);simpa using this
def zgp {S:Seat} {nt:Nat} {ops:Array Oper} {o:Oper} {a:AOper} (h:fe S nt ops true o=some a):a.aft=(o.after.toList.filter (Region.binds .any)).map (·.on):=by
 unfold fe at h;split at h
 ·split at h
  ·cases h;rfl
  ·cases h
 ·cases h
def zi0 {listed:Array Bool} {i j:Nat} (hi:i < listed.size):(listed.setIfInBounds i true).getD j true=if j=i then true else listed.getD j true:=by
 simp only[Aj,Array.getElem?_setIfInBounds];by_cases h:i=j
 ·subst h;simp[hi]
 ·rw[if_neg h,if_neg (fun e=>h e.symm)]
def mem_ready {ops:Array Oper} {listed:Array Bool} {i:Nat}:i∈Region.ready .any ops listed↔i < ops.size∧listed.getD i true=false∧∃ o,ops[i]? = some o∧∀ e∈o.after,Region.binds .any e=true->listed.getD e.on false=true:=by
 simp only[Region.ready,BF,Bc,Ak,AJ];constructor
 ·rintro ⟨h1,h2,h3⟩;refine ⟨h1,h2,ops[i],A8 h1,fun e he hb => ?_⟩;rw[A8 h1] at h3;simp only[AE,A5,Array.all_eq_true'] at h3;have:=h3 e he;simpa[hb] using this
 ·rintro ⟨h1,h2,o,h3,h4⟩;refine ⟨h1,h2, ?_⟩;rw[h3];simp only[AE,A5,Array.all_eq_true'];intro e he;cases hb:Region.binds .any e with
  | false=>simp
  | true=>simp[h4 e he hb]
def drawOk {S:Seat} (hS:qd S):jd S:=by
 intro A0 O w0 nt ops la id st aa A σ w tm Q mu hdst hm mY hr h hn hk;obtain ⟨eD,eC,fF⟩:=zge mY;have aM:ziA la (wU la) la.length:=zal la la [] [] rfl eD ⟨rfl,fun i k o hi=>by simp at hi⟩;obtain ⟨l1,l2⟩:=zk mu;have kM:la.length=ops.size:=by simpa using l1.symm
 refine wp_region_any hm ?_
 have key:∀ (n:Nat) (R:List Nat) (listed:Array Bool) (st:ASt) (A:Nat->Prop) (σ:Nat->Option Nat) (w:World) (tm:Array Value),R.length=n->listed.size=ops.size->R.Pairwise (fun k i=>k≠i∧∀ (p o:AOper),la[k]? = some p->la[i]? = some o->i ∉ p.aft∧(((wU la).getD i 0).testBit k=true∨zcs p o=true))->(∀ i,i∈R↔i < ops.size∧listed.getD i true=false) ->
   (∀ (i j:Nat) (o:AOper),(i < la.length∧i ∉ R)->la[i]? = some o->j∈o.aft->(j < la.length∧j ∉ R))->OpsR (za S) true (R.map fun i=>la.getD i dOp) st aa->zaE S A0 O w0 A σ w st tm->tm.size=nt->wpAny S.P .any ops Q n listed ⟨tm,[]⟩ w:=by
  intro n
  induction n with
  | zero =>
   intro R listed st A σ w tm hlen aG iQ bj gA hr h hn;have hR:R=[]:=Bj.1 hlen;subst hR;simp only[A3] at hr;cases hr with
   | cv hq=>cases hq
   | nil =>
   refine ⟨?_,hk w A σ tm h hn⟩;refine Ax.2 fun i hi => ?_;obtain ⟨h1,h2,_⟩:=mem_ready.1 hi;exact absurd ((bj i).2 ⟨h1,h2⟩) (by simp)
  | succ n ih =>
   intro R listed st A σ w tm hlen aG iQ bj gA hr h hn;have notin:∀ j,j < ops.size->j ∉ R->listed.getD j true=true∧listed.getD j false=true:=by
    intro j hj hjR;have h1:listed.getD j true=true:=by
     cases hq:listed.getD j true with
     | true=>rfl
     | false=>exact absurd ((bj j).2 ⟨hj,hq⟩) hjR
    refine ⟨h1, ?_⟩;have bF:j < listed.size:=by omega
    simp only[Array.getD,bF,dif_pos] at h1 ⊢;exact h1
   refine ⟨fun bD => ?_,fun i hi => ?_⟩
   ·exfalso
    match R,hlen,iQ,bj with
    | i :: R,_,iQ,bj =>
     have hi:=(bj i).1 Ah;have oT:i∈Region.ready .any ops listed:=by
      refine mem_ready.2 ⟨hi.1,hi.2,ops[i],A8 hi.1,fun e he hb => ?_⟩;have cM:la[i]? = some (la[i]'(by omega)):=Ac _;obtain ⟨o,ho,hc⟩:=l2 i _ cM;have fN:o=ops[i]:=by simpa[hi.1] using ho.symm
      subst fN;have gC:=zgp hc;have hj:e.on∈(la[i]'(by omega)).aft:=(by rw[gC];exact Ap.2 ⟨e,BF.2 ⟨by simpa using he,hb⟩,rfl⟩);have aq:=eD i e.on _ cM hj;refine (notin e.on (by omega) fun hm => ?_).2;rcases Aq.1 hm with hm | hm
      ·omega
      ·have ji:e.on < la.length:=by omega
       exact ((Ca iQ hm).2 _ _ cM (Ac ji)).1 hj
     rw[bD] at oT;cases oT
   ·obtain ⟨h1,h2,o,ho,gC⟩:=mem_ready.1 hi;have hiR:i∈R:=(bj i).2 ⟨h1,h2⟩;obtain ⟨R1,R2,rfl⟩:=List.append_of_mem hiR;have cM:la[i]? = some (la[i]'(by omega)):=Ac _;obtain ⟨o',fN,hc⟩:=l2 i _ cM;have:o'=o:=by simpa[ho] using fN.symm
    subst this;have pc:∀ j∈(la[i]'(by omega)).aft,j < la.length∧j ∉ R1++i :: R2:=by
     intro j hj;rw[zgp hc] at hj;obtain ⟨e,he,rfl⟩:=Ap.1 hj;obtain ⟨du,dt⟩:=BF.1 he;have hl:=gC e (by simpa using du) dt;have aq:e.on < listed.size:=by
      refine Nat.lt_of_not_le fun o8 => ?_;have mJ:¬ e.on < listed.size:=by omega
      simp[Array.getD,mJ] at hl
     refine ⟨by omega,fun hm => ?_⟩;have:=((bj _).1 hm).2;simp only[Array.getD,aq,dif_pos] at this hl;rw[this] at hl;cases hl
    have dO:=Cq.1 iQ;have gm:∀ k∈R1,zcs (la.getD k dOp) (la.getD i dOp)=true:=by
     intro k mv;have iY:=dO.2.2 k mv i Ah;have ic:k < la.length:=(by have:=((bj k).1 (Ao.2 (.inl mv))).1;omega);have e1:la.getD k dOp=la[k]:=by simp[List.getD,ic]
     have e2:la.getD i dOp=la[i]'(by omega):=by simp[List.getD,kM,h1]
     rw[e1,e2];rcases (iY.2 _ _ (Ac ic) cM).2 with hb | hb
     ·have:=ze7 aM (L:=fun i'=>i' < la.length∧i' ∉ R1++i :: R2) gA eD (i+1) i k _ (by omega) cM pc hb;exact absurd (Ao.2 (.inl mv)) this.2
     ·exact hb
    rw[Bl,An] at hr;obtain ⟨s1,q1,q2⟩:=front (R1.map fun i=>la.getD i dOp) (fun k hk=>by
     obtain ⟨k',au,rfl⟩:=Ap.1 hk;exact gm k' au) hr
    have e2:la.getD i dOp=la[i]'(by omega):=by simp[List.getD,kM,h1]
    rw[e2] at q1;refine zdX hS h hn ho hc q1.loud fun w' A' σ' b8 k1 k2 => ?_;have iT:i ∉ R1∧i ∉ R2:=by
     refine ⟨fun hm => ?_,fun hm => ?_⟩
     ·exact (dO.2.2 i hm i Ah).1 rfl
     ·exact (Ca dO.2.1 hm).1 rfl
    refine ih (R1++R2) _ s1 A' σ' w' b8 (by simp at hlen ⊢;omega) (by simpa using aG) ?_ ?_ ?_ (by rw[Bl];exact q2) k1 k2
    ·exact Cq.2 ⟨dO.1,(B8.1 dO.2.1).2,fun a ha b hb=>dO.2.2 a ha b (Ad _ hb)⟩
    ·intro j;rw[zi0 (by omega)];have:=bj j;simp only[Ao,Aq] at this ⊢;by_cases mw:j=i
     ·subst mw;simp[iT.1,iT.2]
     ·rw[if_neg mw,← this];simp[mw]
    ·intro i' j o2 hL gu hj;by_cases kT:i'=i
     ·subst kT;rw[cM] at gu;cases gu;have:=pc j hj;refine ⟨this.1,fun hm=>this.2 ?_⟩;simp only[Ao,Aq] at hm ⊢;exact hm.imp (fun h=>h) .inr
     ·have:=gA i' j o2 ⟨hL.1,fun hm=>hL.2 ?_⟩ gu hj
      ·refine ⟨this.1,fun hm=>this.2 ?_⟩;simp only[Ao,Aq] at hm ⊢;exact hm.imp (fun h=>h) .inr
      ·simp only[Ao,Aq] at hm ⊢;exact hm.imp (fun h=>h) fun h=>h.resolve_left kT
 have iW:∀ (R:List Nat) (n:Nat),R.Nodup->(∀ i,i∈R↔i < n)->R.length=n:=(by intro R n hnd hR;have h1:R.length<=n:=(by have:=nodup_le n R hnd fun x hx=>(hR x).1 hx;exact this);have h2:n<=R.length:=(by have:=zcA (List.range n) R List.nodup_range fun x hx=>(hR x).2 (Bc.1 hx);simpa using this);omega);refine key ops.size (zhn la) _ st A σ _ tm (iW _ _ (fF.imp fun {a b} h=>h.1) fun i=>by rw[eC,kM]) (by simp) fF ?_ ?_ hr (let ⟨w1,r1,j1,h1⟩:=h;⟨w1,r1,j1,h1.drew⟩) hn
 ·intro i;rw[eC,kM];refine ⟨fun hi=>⟨hi,by simp[Array.getD,hi]⟩,fun hi=>hi.1⟩
 ·intro i j o hi;exact absurd ((eC i).2 hi.1) hi.2
end
section
open Go Go.RowKit
def law_calls {S:Seat} {g id:Nat} (hg:qh g S.fns=some id) {args:List AV} (h:(za S).ret id args (.v (.bool true)) []) {A:Nat->Prop} {w:World} {vs:Array Value} (hl:vs.size=args.length) (hA:(∀ b,A b->b < w.heap.size)∧Inv S w)
  (ha:∀ (i:Nat) (x:AV),args[i]? = some x->VR0 S A w x (vs.getD i undef)) (h1:∀ b,¬ S.jg b:=by exact fun _ h=>h) (h2:∀ w,S.jn w:=by exact fun _=>trivial):Calls S.P g vs w fun e w'=>e=.returned (.bool true)∧Below w.heap.size w w':=by
 have bC:∀ x∈args,zm x=false:=fun x hx=>(by obtain ⟨i,hi⟩:=Ay.1 hx;have:=ha i x hi;generalize vs.getD i undef=v at this;cases this<;>rfl);refine ((h g hg).old bC A w vs hl hA (.none h1 h2 _ _ _) ha).mono fun e w' ⟨v,he,hk,_,hr⟩ => ?_;obtain ⟨β,_,_,_,hv⟩:=hr;have:v=.bool true:=(VR.of0 (σ:=fun _=>none) hv).v_inv;subst this;exact ⟨he,⟨hk.os,hk.tape,hk.output,hk.size,fun k au=>hk.block k au (h1 k)⟩⟩
end
end Ab
