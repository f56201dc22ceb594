import Derived.Test.YtkaifdgeigdbhaaGreatDoorA2
import Derived.Orders
import Derived.Below
set_option linter.all false
namespace Ab
open Go
section
open Go Go.RowKit
section
variable {S:Seat} {A0:Nat->Prop} {O:Hnd} {w0:World} {A:Nat->Prop} {σ:Nat->Option Nat} {w:World} {st aa:ASt} {tm:Array Value} {df:List Deferred} {o:Oper} {v:AV} {d:Nat}
def zev {P:Program} {t:TypeId} {f:Nat} {fl:Field} (h:zew P t f=some fl):∃ fs,P.underlying t=some (.struct fs)∧fs[f]? = some fl:=by
 unfold zew at h;split at h
 ·rename_i fs hu;exact ⟨fs,hu,h⟩
 ·cases h
def op_binOp (h:SRel S A0 O w0 A σ w st tm) {op:BinOp} {t u:TypeId} {x y:Operand} (ho:o.op=.binOp op t x y u) {a:AOp} (hc:cBin S op t x y=some a) (ha:aop a d st=some (v,aa)):wK S A0 O w0 w tm df o v aa:=by
 unfold cBin at hc;split at hc
 ·rename_i k x' y' hu hx hy;have:a=.bin .int op x' y':=by cases op<;>simp at hc<;>exact hc.symm
  subst this;exact op_bin h ho (fun e=>by cases e) hx hy ha
 ·rename_i x' y' hu hx hy;have:a=.bin .str op x' y':=by cases op<;>simp at hc<;>exact hc.symm
  subst this;exact op_bin h ho (fun e=>by cases e) hx hy ha
 ·rename_i x' y' hu hx hy;have:a=.bin .bool op x' y':=by cases op<;>simp at hc<;>exact hc.symm
  subst this;exact op_bin h ho (fun _=>hu) hx hy ha
 ·rename_i fs x' y' hu hx hy;split at hc
  ·rename_i hg;split at hc
   ·rename_i l _ hl;cases hc;exact op_eqa (neg:=false) h (by simpa using ho) hu hg.1 hg.2 (by assumption) hx hy ha
   ·rename_i l _ hl;cases hc;exact op_eqa (neg:=true) h (by simpa using ho) hu hg.1 hg.2 (by assumption) hx hy ha
   ·cases hc
  ·cases hc
 ·rename_i ms x' y' hu hx hy;split at hc
  ·split at hc
   ·cases hc;rename_i hn;exact zfZ (neg:=false) (z:=x) h (by simpa using ho) hu (.inl ⟨rfl,hn⟩) hx ha
   ·split at hc
    ·cases hc;rename_i hn;exact zfZ (neg:=false) (z:=y) h (by simpa using ho) hu (.inr ⟨rfl,hn⟩) hy ha
    ·cases hc
  ·split at hc
   ·cases hc;rename_i hn;exact zfZ (neg:=true) (z:=x) h (by simpa using ho) hu (.inl ⟨rfl,hn⟩) hx ha
   ·split at hc
    ·cases hc;rename_i hn;exact zfZ (neg:=true) (z:=y) h (by simpa using ho) hu (.inr ⟨rfl,hn⟩) hy ha
    ·cases hc
  ·cases hc
 ·rename_i e x' y' hu hx hy;split at hc
  ·cases hc;exact op_eqnS (neg:=false) h (by simpa using ho) hu hx ha
  ·cases hc;exact op_eqnS (neg:=true) h (by simpa using ho) hu hx ha
  ·cases hc
 ·cases hc
def op_conv (h:SRel S A0 O w0 A σ w st tm) {s t:TypeId} {x:Operand} (ho:o.op=.convert s t x) {a:AOp} (hc:zje S s t x=some a) (ha:aop a d st=some (v,aa)):wK S A0 O w0 w tm df o v aa:=by
 unfold zje at hc;split at hc
 ·rename_i k0 k x' hs ht hx;cases hc;exact op_cvi h ho hs ht hx ha
 ·rename_i e x' hs ht hx;split at hc
  ·rename_i he hz;cases hc;exact op_cvs (i:=default) h ho hs ht he hx ha
  ·cases hc
 ·cases hc
def zkT (h:SRel S A0 O w0 A σ w st tm) {c:Call} (ho:o.op=.call c) {a:AOp} (hc:zgt S c o.type=some a) (ha:aop a d st=some (v,aa)):wK S A0 O w0 w tm df o v aa:=by
 obtain ⟨callee,args,tys⟩:=c;unfold zgt at hc;split at hc
 ·split at hc
  ·cases hc;simp[aop] at ha
  ·cases hc
 ·split at hc
  ·cases hc;simp[aop] at ha
  ·cases hc
 ·rename_i bI;simp only at bI;subst bI;split at hc
  ·rename_i x t hx ht;have hargs:args=#[x]:=by simpa using congrArg List.toArray hx
   have ik:tys=#[t]:=by simpa using congrArg List.toArray ht
   subst hargs;subst ik;split at hc
   ·rename_i hu;simp only[Ag] at hc;obtain ⟨x',bd,rfl⟩:=hc;exact op_lenS h ho hu bd ha
   ·rename_i e hu;simp only[Ag] at hc;obtain ⟨x',bd,rfl⟩:=hc;exact op_len h ho hu bd ha
   ·cases hc
  ·cases hc
 ·rename_i bI;simp only at bI;subst bI;split at hc
  ·rename_i x y t u hx ht;have hargs:args=#[x,y]:=by simpa using congrArg List.toArray hx
   have ik:tys=#[t,u]:=by simpa using congrArg List.toArray ht
   subst hargs;subst ik;split at hc
   ·rename_i e z zs x' y' he hz bd cN;split at hc
    ·rename_i htu;subst htu;cases hc;obtain ⟨hu,i,hi,aM,h0,h1,h2⟩:=yp he;rw[he] at hz;obtain ⟨i',zv,k1,k2,k3,k4,k5,k6⟩:=yo hz;simp only[Be] at k1;obtain rfl:i'=i:=Option.some.inj (k1.symm.trans hi);simp only at aM;subst aM;exact op_app h ho hu hi k2 k4 h2 bd cN ha
    ·cases hc
   ·cases hc
  ·cases hc
 ·rename_i bI;simp only at bI;subst bI;split at hc
  ·rename_i x y hx;have hargs:args=#[x,y]:=by simpa using congrArg List.toArray hx
   subst hargs;split at hc
   ·rename_i x' y' bd cN;cases hc;exact op_max h ho bd cN ha
   ·cases hc
  ·cases hc
 ·cases hc
def op_all (h:SRel S A0 O w0 A σ w st tm) {a:AOp} (hc:cOp S o.op o.type=some a) (ha:aop a d st=some (v,aa)):wK S A0 O w0 w tm df o v aa:=by
 unfold cOp at hc;split at hc
 ·rename_i x ho;simp only[Ag] at hc;obtain ⟨x',hx,rfl⟩:=hc;exact op_mov h (.inl ho) hx ha
 ·rename_i x ho;simp only[Ag] at hc;obtain ⟨x',hx,rfl⟩:=hc;exact op_mov h (.inr ho) hx ha
 ·rename_i e x ho;simp only[Ag] at hc;obtain ⟨x',hx,rfl⟩:=hc;exact op_box h ho hx ha
 ·rename_i e ho;simp only[Ag] at hc;obtain ⟨z,hz,rfl⟩:=hc;exact op_alloc h ho hz ha
 ·rename_i t ps ho;split at hc
  ·rename_i fs zero l hu hz hl;split at hc
   ·rename_i szs hs;cases hc;exact op_build h ho hu hz hl hs ha
   ·cases hc
  ·cases hc
 ·rename_i t len ps ho;split at hc
  ·rename_i e z zero l he hz hl;split at hc
   ·rename_i hlen;cases hc;obtain ⟨hu,i,hi,aM,h0,h1,h2⟩:=yp he;rw[he] at hz;obtain ⟨i',zv,k1,k2,k3,k4,k5,k6⟩:=yo hz;simp only[Be] at k1;obtain rfl:i'=i:=Option.some.inj (k1.symm.trans hi);simp only at aM;subst aM;subst k3;exact op_bslice h ho hu hi k2 k4 h0 h1 k6 hl hlen ha
   ·cases hc
  ·cases hc
 ·rename_i t x ho;split at hc
  ·rename_i n x' hn hx;cases hc;exact op_load h ho hn hx ha
  ·cases hc
 ·rename_i t a' x ho;split at hc
  ·rename_i z a2 x2 hz h1 h2;cases hc;exact op_store h ho hz h1 h2 ha
  ·cases hc
 ·rename_i x ho;simp only[Ag] at hc;obtain ⟨x',hx,rfl⟩:=hc;exact op_chk h ho hx ha
 ·rename_i op t x y u ho;exact op_binOp h ho hc ha
 ·rename_i op t x ho;split at hc
  ·simp only[Ag] at hc;obtain ⟨x',hx,rfl⟩:=hc;exact op_un h ho hx ha
  ·simp only[Ag] at hc;obtain ⟨x',hx,rfl⟩:=hc;exact op_un h ho hx ha
  ·cases hc
 ·rename_i s t x ho;exact op_conv h ho hc ha
 ·rename_i t x ho;split at hc
  ·rename_i k x' i hk hx hu;cases hc;exact op_ifc h ho hx hk (.inl ⟨i,hu⟩) ha
  ·rename_i k x' fs hk hx hu;cases hc;exact op_ifc h ho hx hk (.inr ⟨fs,hu⟩) ha
  ·cases hc
 ·rename_i f first caps ho
  split at hc
  ·rename_i hf;split at hc
   ·rename_i id l hid hl;cases hc;exact op_mkfn h ho hf hid hl ha
   ·cases hc
  ·cases hc
 ·rename_i t l c ho;split at hc
  ·rename_i e z zero l' c' he hz hl fH;cases hc;obtain ⟨hu,i,hi,aM,h0,h1,h2⟩:=yp he;rw[he] at hz;obtain ⟨i',zv,k1,k2,k3,k4,k5,k6⟩:=yo hz;simp only[Be] at k1;obtain rfl:i'=i:=Option.some.inj (k1.symm.trans hi);simp only at aM;subst aM;subst k3;exact op_mksl h ho hu hi k2 k4 h0 h2 k6 hl fH ha
  ·cases hc
 ·rename_i t x lo hi ho;split at hc
  ·rename_i x' eZ aO hu hx fx nT;cases hc;exact op_slcS h ho hu hx fx nT ha
  ·rename_i e0 x' eZ aO hu hx fx nT;split at hc
   ·rename_i e z he;cases hc;obtain ⟨kM,i,hi2,aM,h0,h1,h2⟩:=yp he;simp only at aM;subst aM;exact op_slc h ho kM hi2 h0 hx fx nT ha
   ·cases hc
  ·cases hc
 ·rename_i t x f ho;split at hc
  ·rename_i fl x' hf hx;split at hc
   ·rename_i n hn;split at hc
    ·rename_i h0;cases hc;obtain ⟨fs,hu,nZ⟩:=zev hf;exact op_fa h ho hu nZ hn h0 hx ha
    ·cases hc
   ·cases hc
  ·cases hc
 ·rename_i t x f ho;split at hc
  ·rename_i fl x' hf hx;split at hc
   ·rename_i n hn;cases hc;obtain ⟨fs,hu,nZ⟩:=zev hf;exact op_fld h ho hu nZ hn hx ha
   ·cases hc
  ·cases hc
 ·rename_i t x i ho;split at hc
  ·rename_i e z x' i' he hx hi;cases hc;obtain ⟨hu,inf,nR,aM,h0,h1,h2⟩:=yp he;simp only at aM;subst aM;exact op_ia h ho hu nR hx hi ha
  ·cases hc
 ·rename_i t x i ho;split at hc
  ·rename_i x' i' hu hx hi;cases hc;exact op_ix h ho hu hx hi ha
  ·cases hc
 ·rename_i x i ho;simp only[Ag] at hc;obtain ⟨x',hx,rfl⟩:=hc;exact op_ext h ho hx ha
 ·rename_i c a' b ho;split at hc
  ·rename_i c' a2 b2 h1 h2 h3;cases hc;exact op_pick h ho h1 h2 h3 ha
  ·cases hc
 ·rename_i c ho;exact zkT h ho hc ha
 ·cases hc
end
end
section
open Go Go.RowKit
def exOf:AExit->Exit
 | .norm=>.normal
 | .exit id=>.exit id
 | .ret=>.ret
def Post (S:Seat) (A0:Nat->Prop) (O:Hnd) (w0:World) (nt:Nat) (e:AExit) (aa:ASt):Exit->Act->World->Prop :=
 fun ex a w'=>ex=exOf e∧a.defers=[]∧a.tmps.size=nt∧∃ A' σ',zbq S A0 O w0 A' σ' w' aa a.tmps
section
variable {S:Seat} {A0:Nat->Prop} {O:Hnd} {w0:World} {A:Nat->Prop} {σ:Nat->Option Nat} {w:World} {st aa:ASt} {tm:Array Value} {df:List Deferred} {o:Oper} {v:AV} {d:Nat} {nt:Nat}
def zk9 {ops:Array Oper} {draw:Bool} {o:Oper} {a:AOper} (h:zgr S nt ops draw o=some a):(∃ eI,cOp S o.op o.type=some eI∧(a.op=eI∨∃ lt,a.op=noFrz S lt eI))∧a.dst=o.dst∧(∀ d,o.dst=some d->d < nt∧d < 1000) ∧
  (match o.guard with | none=>a.grd=none | some (j,want)=>∃ t,(ops[j]?).bind (·.dst)=some t∧a.grd=some (t,want)):=by
 unfold zgr at h;split at h
 ·rename_i op g h1 h2;split at h
  ·rename_i hd;cases h;refine ⟨⟨op,h1,by cases draw;exact .inl rfl;exact .inr ⟨_,rfl⟩⟩,rfl,fun d hd' => ?_, ?_⟩
   ·rw[hd'] at hd;simpa[dstB] using hd
   ·split at h2
    ·rename_i hg;cases h2;rw[hg]
    ·rename_i j want hg;rw[hg];simp only[Ag] at h2;obtain ⟨t,h3,rfl⟩:=h2;exact ⟨t,h3,rfl⟩
  ·cases h
 ·cases h
def zaa:AOp->Bool
 | .call _ _ _ _ | .calld _ _ _=>true
 | _=>false
def isB:AOp->Bool
 | .bslice _ _ _ _ _=>true
 | _=>false
def cBin_nb {op:BinOp} {t:TypeId} {x y:Operand} {a:AOp} (h:cBin S op t x y=some a):isB a=false:=by
 unfold cBin at h
 repeat' split at h
 all_goals (first | (cases h;rfl) | cases h)
def cConv_nb {s t:TypeId} {x:Operand} {a:AOp} (h:zje S s t x=some a):isB a=false:=by
 unfold zje at h
 repeat' split at h
 all_goals (first | (cases h;rfl) | cases h)
def map_nb {α:Type} {x:Option α} {f:α->AOp} {a:AOp} (h:x.map f=some a) (hf:∀ y,isB (f y)=false):isB a=false:=by simp only[Ag] at h;obtain ⟨y,_,rfl⟩:=h;exact hf y
def cCall_nb {c:Call} {ty:TypeId} {a:AOp} (h:zgt S c ty=some a):isB a=false:=by
 unfold zgt at h
 repeat' split at h
 all_goals (first | (cases h;rfl) | cases h | exact map_nb h fun _=>rfl)
def cBin_nc {op:BinOp} {t:TypeId} {x y:Operand} {a:AOp} (h:cBin S op t x y=some a):zaa a=false:=by
 unfold cBin at h
 repeat' split at h
 all_goals (first | (cases h;rfl) | cases h)
def cConv_nc {s t:TypeId} {x:Operand} {a:AOp} (h:zje S s t x=some a):zaa a=false:=by
 unfold zje at h
 repeat' split at h
 all_goals (first | (cases h;rfl) | cases h)
def map_nc {α:Type} {x:Option α} {f:α->AOp} {a:AOp} (h:x.map f=some a) (hf:∀ y,zaa (f y)=false):zaa a=false:=by simp only[Ag] at h;obtain ⟨y,_,rfl⟩:=h;exact hf y
def zkk {o:Op} {ty:TypeId} {a:AOp} (h:cOp S o ty=some a) (ha:zaa a=true):∃ c,o=.call c∧zgt S c ty=some a:=by
 have no:zaa a=false->∃ c,o=.call c∧zgt S c ty=some a:=fun h=>by rw[ha] at h;cases h
 unfold cOp at h;split at h
 case h_23=>exact ⟨_,rfl,h⟩
 all_goals apply no
 all_goals first
  | exact cBin_nc h
  | exact cConv_nc h
  | exact map_nc h fun _=>rfl
  | ((repeat' split at h)<;>(first | (cases h;rfl) | cases h | exact map_nc h fun _=>rfl))
def op_lit' (h:SRel S A0 O w0 A σ w st tm) {frz:Bool} {z:Nat} {zero:List Value} {len:Nat} {ps:List (Nat×AOpd)} (hc:cOp S o.op o.type=some (.bslice frz z zero len ps)) (ha:aop (.lit z zero len ps) d st=some (v,aa)):wK S A0 O w0 w tm df o v aa:=by
 generalize eC:o.op=op at hc;have no:∀ {x:Option AOp},x=some (.bslice frz z zero len ps)->(∀ a,x=some a->isB a=false)->False:=fun h1 h2=>(by have:=h2 _ h1;simp[isB] at this);unfold cOp at hc;split at hc
 case h_6 t len' ps' =>
  split at hc
  ·rename_i e z' ph l he hz hl;split at hc
   ·rename_i hlen;cases hc;obtain ⟨hu,i,hi,aM,h0,h1,h2⟩:=yp he;rw[he] at hz;obtain ⟨i',zv,k1,k2,k3,k4,k5,k6⟩:=yo hz;simp only[Be] at k1;obtain rfl:i'=i:=Option.some.inj (k1.symm.trans hi);simp only at aM;subst aM;subst k3;exact op_lit h eC hu hi k2 k4 h0 h1 k6 hl hlen ha
   ·cases hc
  ·cases hc
 all_goals exfalso
 all_goals first
  | exact no hc fun a ha=>cBin_nb ha
  | exact no hc fun a ha=>cConv_nb ha
  | exact no hc fun a ha=>map_nb ha fun _=>rfl
  | exact no hc fun a ha=>cCall_nb ha
  | ((repeat' split at hc)<;>(first | (cases hc;done) | exact no hc fun a ha=>map_nb ha fun _=>rfl))
def Same (a b:AOp):Prop:=b=a∨(∃ frz muts f xs m,a=.call frz muts f xs∧b=.call frz m f xs)∨∃ frz z zero len ps,a=.bslice frz z zero len ps∧b=.lit z zero len ps
def step_call (hS:qO S) (hJ:zbq S A0 O w0 A σ w st tm) {a a':AOp} (hc:cOp S o.op o.type=some a) (hm:Same a a') (hs:jA (zh S) false a' d st v aa) {next:Act->World->Prop} {Q:Exit->Act->World->Prop}
  (hn:∀ w' A' σ' rv,zbq S A0 O w0 A' σ' w' aa tm->(Got S A' σ' w' aa v rv∨(v=.bot∧rv=undef))->next (Act.put ⟨tm,df⟩ o.dst rv) w'):o.wp S.P ⟨tm,df⟩ w next Q:=by
 obtain ⟨w1,cE,jr,h⟩:=hJ
 -- a call of function g
 have call:∀ (g f:Nat) (frz:Bool) (muts:List Nat) (args:List AV) (vs:Array Value),qL g S.fns=some f->(execOp (Act.eval ⟨tm,df⟩) o).run S.P w=.ok (.enter g vs) w->vs.size=args.length->(∀ (i:Nat) (x:AV),args[i]? = some x->Got S A σ w st x (vs.getD i undef)) ->
   zbs (zh S) frz muts f args d st v aa->o.wp S.P ⟨tm,df⟩ w next Q:=by
  intro g f frz muts args vs hf hr hl hg rn;unfold Oper.wp;rw[hr,Oper.upon_enter];have lz:Calls S.P g vs w fun e w'=>∃ rv A' σ' w2,e=.returned rv∧RebR S w1 w2∧JR S A0 O w2∧SRel S A0 O w2 A' σ' w' aa tm∧Got S A' σ' w' aa v rv:=by
   cases muts with
   | nil=>exact zjb h jr hl hg hf rn
   | cons m ms=>exact zjc h jr hl hg hf rfl rn
  refine lz.mono fun e w' ⟨rv,A',σ',w2,he,k0,j2,k1,k2⟩ => ?_;subst he;exact hn w' A' σ' rv ⟨w2,cE.trans k0,j2,k1⟩ (.inl k2)
 have other:aop a d st=some (v,aa)->o.wp S.P ⟨tm,df⟩ w next Q:=by
  intro ha;obtain ⟨n,w',A',σ',hr,k1,k2⟩:=op_all (df:=df) h hc ha;unfold Oper.wp;rw[hr];rcases k2 with ⟨rv,rfl,k2⟩ | ⟨rfl,k2⟩
  ·exact hn w' A' σ' rv ⟨w1,cE,jr,k1⟩ (.inl k2)
  ·exact hn w' A' σ' undef ⟨w1,cE,jr,k1⟩ (.inr ⟨k2,rfl⟩)
 have cJ:(∀ frz muts f xs,a≠.call frz muts f xs)->(∀ frz z zero len ps,a≠.bslice frz z zero len ps)->a'=a:=fun cF nH=>by
  rcases hm with e | ⟨frz,muts,f,xs,m,e,_⟩ | ⟨frz,z,zero,len,ps,e,_⟩
  ·exact e
  ·exact absurd e (cF frz muts f xs)
  ·exact absurd e (nH frz z zero len ps)
 cases a with
 | call frz muts f as =>
  obtain ⟨m',rfl⟩:∃ m',a'=.call frz m' f as:=by
   rcases hm with e | ⟨_,_,_,_,m,e,e2⟩ | ⟨_,_,_,_,_,e,_⟩
   ·exact ⟨muts,e⟩
   ·cases e;exact ⟨m,e2⟩
   ·cases e
  simp only[jA,Ap,false_and,if_false] at hs;obtain ⟨c,ho,hc⟩:=zkk hc rfl;obtain ⟨callee,args,tys⟩:=c;unfold zgt at hc;split at hc
  ·rename_i g bI;simp only at bI;subst bI;split at hc
   ·rename_i id xs hid ij;cases hc;obtain ⟨e1,e2⟩:=h.evs (df:=df) ij;refine call g f _ _ (as.map st.ev) (args.map (Act.eval ⟨tm,df⟩)) hid ?_ (by simp at e1 ⊢;omega) (fun i x hx => ?_) hs
    ·have:=zcM hS hid (args.map (Act.eval ⟨tm,df⟩)) w;have e0:Act.eval ⟨tm,df⟩ (.func g)=.func (.func g) #[] #[]:=rfl;simp[execOp,ho,resolve,Deferred.ofValue,invoke,e0,this]
    ·have:=e2 i x hx;simpa[Aq,List.getD] using this
   ·cases hc
  all_goals (repeat' (split at hc))<;>(first | cases hc | (simp at hc;done))
 | calld frz x as =>
  obtain rfl:=cJ (by simp) (by simp);simp only[jA,Ap,if_false] at hs;obtain ⟨c,ho,hc⟩:=zkk hc rfl;obtain ⟨callee,args,tys⟩:=c;unfold zgt at hc;split at hc
  ·(repeat' (split at hc))<;>(first | cases hc | (simp at hc;done))
  ·rename_i t bI;simp only at bI;subst bI;split at hc
   ·rename_i xs ij;cases hc;split at hs
    ·rename_i f caps l8;obtain ⟨e1,e2⟩:=h.evs (df:=df) ij;have gt:=h.ev (df:=df) (x:=.tmp t) (a:=.t t) rfl;rw[l8] at gt;obtain ⟨g,us,hv,hid,u1,u2⟩:=gt.rel.fn_inv;refine call g f _ _ (as.map st.ev++caps) (args.map (Act.eval ⟨tm,df⟩)++us) hid ?_ (by simp at e1 ⊢;omega) (fun i x hx => ?_) hs
     ·have:=zcM hS hid (args.map (Act.eval ⟨tm,df⟩)++us) w;simp[execOp,ho,resolve,Deferred.ofValue,invoke,hv,this]
     ·have aM:(args.map (Act.eval ⟨tm,df⟩)).size=(as.map st.ev).length:=by simp at e1 ⊢;omega
      by_cases ae:i < (as.map st.ev).length
      ·rw[AJ ae] at hx;have:=e2 i x hx;have e3:(args.map (Act.eval ⟨tm,df⟩)++us).getD i undef=(args.toList.map (Act.eval ⟨tm,df⟩)).getD i undef:=(by rw[Aq,Cc (by omega)];simp[List.getD]);rw[e3];exact this
      ·rw[AK (by omega)] at hx;have e3:(args.map (Act.eval ⟨tm,df⟩)++us).getD i undef=us.getD (i - (as.map st.ev).length) undef:=(by rw[Aq,Array.getElem?_append_right (by omega),aM,Aq]);rw[e3];exact ⟨u2 _ x hx,fun s ah=>gt.dang s (by rw[AV.refs];exact zm.2 ⟨x,Ad hx,ah⟩)⟩
    ·exact hs.elim
   ·cases hc
  all_goals (repeat' (split at hc))<;>(first | cases hc | (simp at hc;done))
 | bslice frz z zero len ps =>
  rcases hm with rfl | ⟨_,_,_,_,_,e,_⟩ | ⟨_,_,_,_,_,e,e2⟩
  ·exact other hs
  ·cases e
  ·cases e;subst e2;obtain ⟨n,w',A',σ',hr,k1,k2⟩:=op_lit' (df:=df) h hc hs;unfold Oper.wp;rw[hr];rcases k2 with ⟨rv,rfl,k2⟩ | ⟨rfl,k2⟩
   ·exact hn w' A' σ' rv ⟨w1,cE,jr,k1⟩ (.inl k2)
   ·exact hn w' A' σ' undef ⟨w1,cE,jr,k1⟩ (.inr ⟨k2,rfl⟩)
 | _=>obtain rfl:=cJ (by simp) (by simp);exact other hs
end
end
section
open Go Go.RowKit
section
variable {S:Seat} {A0:Nat->Prop} {O:Hnd} {w0:World} {A:Nat->Prop} {σ:Nat->Option Nat} {w:World} {st aa:ASt} {tm:Array Value} {df:List Deferred} {o:Oper} {v:AV} {d:Nat} {nt:Nat}
def Match (S:Seat) (nt:Nat) (draw:Bool) (ops:Array Oper):List Nat->List AOper->Prop
 | [],[]=>True
 | i :: L,a :: la=>(∃ o,ops[i]? = some o∧zgr S nt ops draw o=some a)∧Match S nt draw ops L la
 | _,_=>False
def SRel.putO (h:SRel S A0 O w0 A σ w st tm) (hn:tm.size=nt) {dst:Option Nat} (hd:∀ d,dst=some d->d < nt) {x:AV} {rv:Value} (hg:Got S A σ w st x rv) :
  SRel S A0 O w0 A σ w (st.putO dst x) (Act.put ⟨tm,df⟩ dst rv).tmps∧(Act.put ⟨tm,df⟩ dst rv).tmps.size=nt∧(Act.put ⟨tm,df⟩ dst rv).defers=df:=by
 cases dst with
 | none=>exact ⟨h,hn,rfl⟩
 | some d=>exact ⟨h.put (by rw[hn];exact hd d rfl) hg,by simp[Act.put,hn],rfl⟩
def jA.noFrz {M:Rets} {q:Bool} {op:AOp} {d:Nat} {st aa:ASt} {v:AV} {lt:Bool} (h:jA M q (noFrz S lt op) d st v aa):∃ gb,Same op gb∧jA M q gb d st v aa:=by
 cases op with
 | bslice frz z zero len ps =>
  cases lt with
  | true=>exact ⟨_,.inr (.inr ⟨frz,z,zero,len,ps,rfl,rfl⟩),h⟩
  | false =>
  have h':aop (.bslice false z zero len ps) d st=some (v,aa):=h;refine ⟨_,.inl rfl, ?_⟩;show aop (.bslice frz z zero len ps) d st=some (v,aa);simp only[aop] at h' ⊢;split at h'
  ·rename_i ps' e1 e2;split at h'
   ·rename_i hc;rw[if_pos (.inr (hc.resolve_left (by simp)))];exact h'
   ·cases h'
  ·cases h'
 | call frz muts f xs =>
  cases muts with
  | nil =>
   simp only[Ab.noFrz] at h;split at h
   ·exact ⟨_,.inr (.inl ⟨frz,[],f,xs,[3000],rfl,rfl⟩),h⟩
   ·exact ⟨_,.inl rfl,h⟩
  | cons m ms=>exact ⟨_,.inl rfl,h⟩
 | _=>exact ⟨_,.inl rfl,h⟩
def OpR.noFrz {M:Rets} {q:Bool} {a:AOper} {eI:AOp} {st aa:ASt} (eC:a.op=eI∨∃ lt,a.op=Ab.noFrz S lt eI) (h:OpR M q a st aa):∃ gb,Same eI gb∧OpR M q { a with op:=gb } st aa:=by
 rcases h with ⟨h1,v,aj,h2,h3⟩ | h
 ·rcases eC with e | ⟨lt,e⟩
  ·rw[e] at h2;exact ⟨eI,.inl rfl,.inl ⟨h1,v,aj,h2,h3⟩⟩
  ·rw[e] at h2;obtain ⟨gb,k1,k2⟩:=h2.noFrz;exact ⟨gb,k1,.inl ⟨h1,v,aj,k2,h3⟩⟩
 ·exact ⟨eI,.inl rfl,.inr h⟩
def ziJ (hS:qO S) (h:zbq S A0 O w0 A σ w st tm) (hn:tm.size=nt) {ops:Array Oper} {i:Nat} {a:AOper} {eI:AOp} (ho:ops[i]? = some o) (c1:cOp S o.op o.type=some eI) (nk:Same eI a.op) (c2:a.dst=o.dst) (c3:∀ d,o.dst=some d->d < nt∧d < 1000) (c4:match o.guard with | none=>a.grd=none | some (j,want)=>∃ t,(ops[j]?).bind (·.dst)=some t∧a.grd=some (t,want)) (hr:OpR (zh S) false a st aa)
  {Q:Exit->Act->World->Prop} {K:Act->World->Prop} (hk:∀ w' A' σ' ch,zbq S A0 O w0 A' σ' w' aa ch->ch.size=nt->K ⟨ch,df⟩ w'):wpOp S.P ops Q i K ⟨tm,df⟩ w:=by
 have gC:∀ b,bS st a.grd=some b->Region.wanted o (yielded ops tm)=b:=by
  intro b hb;unfold Region.wanted;cases hg:o.guard with
  | none =>rw[hg] at c4;simp only at c4;rw[c4] at hb;simp only[bS,Option.some.injEq] at hb;exact hb
  | some p =>
   obtain ⟨j,want⟩:=p;rw[hg] at c4;obtain ⟨t,h1,h2⟩:=c4;rw[h2] at hb;simp only[bS] at hb;split at hb
   ·rename_i c fH;simp only[Option.some.injEq] at hb;obtain ⟨_,_,_,h⟩:=h;have hv:=h.fr t;rw[fH] at hv;have e:=hv.v_inv;have e2:tm[t]? = some (.bool c):=by
     rw[Aq] at e;cases hq:tm[t]? with
     | none=>rw[hq] at e;simp[undef] at e
     | some x=>rw[hq] at e;simp at e;rw[e]
    simp only[yielded,h1,Option.bind_some,e2];rw[← hb];cases c<;>cases want<;>rfl
   ·rename_i y fH;simp only[Option.some.injEq] at hb;obtain ⟨_,_,_,h⟩:=h;have hv:=h.fr t;rw[fH] at hv;have e:=hv.v_inv;have e2:∀ c,tm[t]?≠some (.bool c):=(by intro c hq;rw[Aq,hq] at e;cases e);have e3:yielded ops tm j=none:=by
     unfold yielded;rw[h1];split
     ·rename_i c hq;exact absurd hq (e2 c)
     ·rfl
    simp only[e3,← hb];rfl
   ·cases hb
 simp only[wpOp,ho];rcases hr with ⟨hg,v,aj,hs,rfl⟩ | ⟨hg,rfl⟩
 ·rw[if_pos (gC true hg)];left;refine step_call hS h c1 nk hs fun w' A' σ' rv k1 k2 => ?_;have nU:Got S A' σ' w' aj v rv:=by
   rcases k2 with k2 | ⟨rfl,rfl⟩
   ·exact k2
   ·exact ⟨.of0 (.bot _),by simp[AV.refs]⟩
  obtain ⟨w2,r2,j2,k1⟩:=k1;obtain ⟨q1,q2,q3⟩:=k1.putO (df:=df) hn (dst:=o.dst) (fun d hd=>(c3 d hd).1) nU;rw[c2] at hk;have:=hk w' A' σ' _ ⟨w2,r2,j2,q1⟩ q2;rw[show (Act.put ⟨tm,df⟩ o.dst rv)=⟨(Act.put ⟨tm,df⟩ o.dst rv).tmps,df⟩ from by cases o.dst<;>rfl];exact this
 ·rw[if_neg (by rw[gC false hg];simp)];obtain ⟨w2,r2,j2,h⟩:=h;obtain ⟨q1,q2,q3⟩:=h.putO (df:=df) hn (dst:=o.dst) (fun d hd=>(c3 d hd).1) (x:=ud) (rv:=undef) ⟨.of0 (.v _),by simp[AV.refs,ud]⟩;rw[c2] at hk;have:=hk w A σ _ ⟨w2,r2,j2,q1⟩ q2;rw[show (Act.put ⟨tm,df⟩ o.dst undef)=⟨(Act.put ⟨tm,df⟩ o.dst undef).tmps,df⟩ from by cases o.dst<;>rfl];exact this
def zfo (hS:qO S) (h:zbq S A0 O w0 A σ w st tm) (hn:tm.size=nt) {ops:Array Oper} {draw:Bool} {i:Nat} {a:AOper} (ho:ops[i]? = some o) (hc:zgr S nt ops draw o=some a) (hr:OpR (zh S) false a st aa)
  {Q:Exit->Act->World->Prop} {K:Act->World->Prop} (hk:∀ w' A' σ' ch,zbq S A0 O w0 A' σ' w' aa ch->ch.size=nt->K ⟨ch,df⟩ w'):wpOp S.P ops Q i K ⟨tm,df⟩ w:=by
 obtain ⟨⟨eI,c1,eC⟩,c2,c3,c4⟩:=zk9 hc;obtain ⟨gb,k1,k2⟩:=OpR.noFrz eC hr;exact ziJ (a:={ a with op:=gb }) hS h hn ho c1 k1 c2 c3 c4 k2 hk
def ops_sound (hS:qO S) {ops:Array Oper} {draw:Bool} {Q:Exit->Act->World->Prop} (L:List Nat) (la:List AOper) {st:ASt} {A:Nat->Prop} {σ:Nat->Option Nat} {w:World} {tm:Array Value} (hm:Match S nt draw ops L la) (hr:OpsR (zh S) false la st aa) (h:zbq S A0 O w0 A σ w st tm) (hn:tm.size=nt)
  (hq:∀ w' A' σ' ch,zbq S A0 O w0 A' σ' w' aa ch->ch.size=nt->Q .normal ⟨ch,df⟩ w'):wpOps S.P ops Q L ⟨tm,df⟩ w:=by
 induction hr generalizing L A σ w tm with
 | nil st =>
  cases L with
  | nil=>exact hq w A σ tm h hn
  | cons i L=>exact hm.elim
 | cv gH hcv hr ih =>obtain ⟨w2,r2,j2,h⟩:=h;obtain ⟨A',σ',h'⟩:=hcv A0 O w2 A σ w tm h;exact ih L hm ⟨w2,r2,j2,h'⟩ hn hq
 | cons h1 h2 ih =>
  cases L with
  | nil=>exact hm.elim
  | cons i L =>obtain ⟨⟨o,ho,hc⟩,gj⟩:=hm;rw[wpOps_cons];exact zfo hS h hn ho hc h1 fun w' A' σ' ch k1 k2=>ih L gj k1 k2 hq
def pj {ops:Array Oper} {draw:Bool}:∀ (n k:Nat) (la:List AOper),k+n=ops.size->zj (zgr S nt ops draw) (ops.toList.drop k)=some la->Match S nt draw ops (List.range' k n) la
 | 0,k,la,hk,h=>by
  rw[B9 (by simp;omega)] at h;simp only[zj,Option.some.injEq] at h;subst h;simp[List.range',Match]
 | n+1,k,la,hk,h=>by
  have ae:k < ops.toList.length:=by simp;omega
  rw[Bh ae] at h;simp only[zj] at h;split at h
  ·rename_i a la' ha nL;cases h;rw[List.range'_succ];exact ⟨⟨ops[k]'(by simpa using ae),by simp,by simpa using ha⟩,pj n (k+1) la' (by omega) nL⟩
  ·cases h
def qv:ACode->Bool
 | .region _ d => !d
 | .seq a b=>qv a && qv b
 | .cond _ a b=>qv a && qv b
 | .block _ b=>qv b
 | .loop b=>qv b
 | _=>true
def LoopWp (P:Program) (c:Code) (Q:Exit->Act->World->Prop) (a:Act) (w:World):Prop :=
 ∀ (b:Frame) (k:List Item) (cs:List Frame),∃ e a' w',Q e a' w'∧Arrives P (lone (b.at a (.code c :: .inLoop c :: k)) cs w) b k cs e a' w'
def Stm (P:Program) (c:Code) (Q:Exit->Act->World->Prop) (a:Act) (w:World):Prop :=
 match c with
 | .loop b=>LoopWp P b Q a w
 | c=>c.wp P Q a w
def Stm.wp {P:Program} {c:Code} {Q:Exit->Act->World->Prop} {a:Act} {w:World} (h:Stm P c Q a w):c.wp P Q a w:=by
 cases c with
 | loop b =>intro fr k cs;obtain ⟨e,a',w',hq,cU⟩:=h fr k cs;exact ⟨e,a',w',hq,.of_steps (.one step_loop) cU⟩
 | _=>exact h
def yN (S:Seat):Prop:=∀ (A0:Nat->Prop) (O:Hnd) (w0:World) (nt:Nat) (ops:Array Oper) (la:List AOper) (id:Nat) (st aa:ASt) (A:Nat->Prop) (σ:Nat->Option Nat) (w:World) (tm:Array Value) (Q:Exit->Act->World->Prop),
 zj (zgr S nt ops true) ops.toList=some la->la.all dstOk=true->S.P.follows .mixedOrders=true->zgh la=true->OpsR (zh S) true (ordered la) st aa->zbq S A0 O w0 A σ w st tm->tm.size=nt ->
 (∀ w' A' σ' ch,zbq S A0 O w0 A' σ' w' aa ch->ch.size=nt->Q .normal ⟨ch,[]⟩ w')->(Code.region id ops true).wp S.P Q ⟨tm,[]⟩ w
def Stm.mono {P:Program} {c:Code} {Q Q':Exit->Act->World->Prop} {a:Act} {w:World} (h:Stm P c Q a w) (hq:∀ e a w,Q e a w->Q' e a w):Stm P c Q' a w:=by
 cases c with
 | loop b =>intro fr k cs;obtain ⟨e,a',w',h1,h2⟩:=h fr k cs;exact ⟨e,a',w',hq _ _ _ h1,h2⟩
 | _=>exact wp_mono h hq
def zfC (hS:qO S) {c:ACode} {e:AExit} (hex:Ex (zh S) c st e aa) (hD:qv c=true∨yN S):∀ {rc:Code},yR S nt rc=some c->∀ {A:Nat->Prop} {σ:Nat->Option Nat} {w:World} {tm:Array Value},
  zbq S A0 O w0 A σ w st tm->tm.size=nt->Stm S.P rc (Post S A0 O w0 nt e aa) ⟨tm,[]⟩ w:=by
 induction hex with
 | skip st =>
  intro rc hc A σ w tm h hn;cases rc<;>simp[yR] at hc
  case skip=>exact wp_skip ⟨rfl,rfl,hn,A,σ,h⟩
  case region=>split at hc<;>simp at hc
  all_goals (first | (split at hc<;>simp at hc;done) | skip)
 | @region ops dr st aa hr =>
  intro rc hc A σ w tm h hn;cases rc<;>simp only[yR,Ag,reduceCtorEq,and_false,exists_false,Option.some.injEq] at hc
  case region id rops rdr =>
   split at hc
   ·rename_i l' hl;split at hc
    ·rename_i aV;cases hc;cases dr with
     | false =>refine wp_region ?_;have hm:=pj (S:=S) (nt:=nt) (ops:=rops) (draw:=false) rops.size 0 l' (by simp) (by simpa using hl);rw[CU];simp only[Ap,if_false] at hr;exact ops_sound hS _ _ hm hr h hn fun w' A' σ' ch k1 k2=>⟨rfl,rfl,k2,A',σ',k1⟩
     | true =>
      simp only[if_true] at hr;rcases hD with hD | hD
      ·simp[qv] at hD
      ·exact hD A0 O w0 nt rops l' id _ _ A σ w tm _ hl aV.1 (aV.2.resolve_left (by simp)).1 (aV.2.resolve_left (by simp)).2 hr h hn fun w' A' σ' ch k1 k2=>⟨rfl,rfl,k2,A',σ',k1⟩
    ·cases hc
   ·cases hc
  all_goals (split at hc<;>simp at hc)
 | @seqN a b st aj al e h1 h2 de ka =>
  intro rc hc A σ w tm h hn;cases rc<;>simp only[yR,Ag,reduceCtorEq,and_false,exists_false,Option.some.injEq] at hc
  case seq x y =>
   split at hc
   ·rename_i a' b' ha hb;cases hc;have eu:qv a=true∨yN S:=hD.imp (fun h=>by simp[qv] at h;exact h.1) id;have hD2:qv b=true∨yN S:=hD.imp (fun h=>by simp[qv] at h;exact h.2) id;refine wp_seq (wp_mono (Stm.wp (de eu ha h hn)) fun ex a' w' ⟨q1,q2,q3,A',σ',q4⟩ => ?_);obtain ⟨ch,df'⟩:=a';simp only at q2 q3 q4;subst q1;subst q2;exact Stm.wp (ka hD2 hb q4 q3)
   ·cases hc
  all_goals (split at hc<;>(try split at hc)<;>simp at hc)
 | @seqE a b st aj e h1 ak de =>
  intro rc hc A σ w tm h hn;cases rc<;>simp only[yR,Ag,reduceCtorEq,and_false,exists_false,Option.some.injEq] at hc
  case seq x y =>
   split at hc
   ·rename_i a' b' ha hb;cases hc;have eu:qv a=true∨yN S:=hD.imp (fun h=>by simp[qv] at h;exact h.1) id;refine wp_seq (wp_mono (Stm.wp (de eu ha h hn)) fun ex a' w' hq => ?_);obtain ⟨q1,q2⟩:=hq;subst q1;cases e with
    | norm=>exact absurd rfl ak
    | exit i=>exact ⟨rfl,q2⟩
    | ret=>exact ⟨rfl,q2⟩
   ·cases hc
  all_goals (split at hc<;>(try split at hc)<;>simp at hc)
 | @cond c a b st aa e t az h1 de =>
  intro rc hc A σ w tm h hn;cases rc<;>simp only[yR,Ag,reduceCtorEq,and_false,exists_false,Option.some.injEq] at hc
  case cond x y z =>
   split at hc
   ·rename_i c' a' b' hx ha hb;cases hc;obtain ⟨_,_,_,h0⟩:=id h;have g:=h0.ev (df:=[]) hx;rw[az] at g;have hv:=g.rel.v_inv;cases t with
    | true =>have eu:qv a=true∨yN S:=hD.imp (fun h=>by simp[qv] at h;exact h.1) id;exact wp_cond_true hv (Stm.wp (de eu ha h hn))
    | false =>have eu:qv b=true∨yN S:=hD.imp (fun h=>by simp[qv] at h;exact h.2) id;exact wp_cond_false hv (Stm.wp (de eu hb h hn))
   ·cases hc
  all_goals (split at hc<;>(try split at hc)<;>simp at hc)
 | @blockX i b st aa h1 de =>
  intro rc hc A σ w tm h hn;cases rc<;>simp only[yR,Ag,reduceCtorEq,and_false,exists_false,Option.some.injEq] at hc
  case block i' x =>
   obtain ⟨b',hb,he⟩:=hc;cases he;have eu:qv b=true∨yN S:=hD.imp (fun h=>by simpa[qv] using h) id;refine wp_block (wp_mono (Stm.wp (de eu hb h hn)) fun ex a' w' ⟨q1,q2⟩ => ?_);subst q1;simp only[exOf,Exit.inBlock,if_true];exact ⟨rfl,q2⟩
  all_goals (split at hc<;>(try split at hc)<;>simp at hc)
 | @blockO i b st aa e h1 ak de =>
  intro rc hc A σ w tm h hn;cases rc<;>simp only[yR,Ag,reduceCtorEq,and_false,exists_false,Option.some.injEq] at hc
  case block i' x =>
   obtain ⟨b',hb,he⟩:=hc;cases he;have eu:qv b=true∨yN S:=hD.imp (fun h=>by simpa[qv] using h) id;refine wp_block (wp_mono (Stm.wp (de eu hb h hn)) fun ex a' w' ⟨q1,q2⟩ => ?_);subst q1;cases e with
   | norm=>exact ⟨rfl,q2⟩
   | exit j =>have:j≠i:=fun e=>ak (by rw[e]);simp only[exOf,Exit.inBlock,if_neg this];exact ⟨rfl,q2⟩
   | ret=>exact ⟨rfl,q2⟩
  all_goals (split at hc<;>(try split at hc)<;>simp at hc)
 | @loopN b st aj al e h1 h2 de ka =>
  intro rc hc A σ w tm h hn;cases rc<;>simp only[yR,Ag,reduceCtorEq,and_false,exists_false,Option.some.injEq] at hc
  case loop x =>
   obtain ⟨b',hb,he⟩:=hc;cases he;have eu:qv b=true∨yN S:=hD.imp (fun h=>by simpa[qv] using h) id;intro fr k cs;obtain ⟨ex,a',w',⟨q1,q2,q3,A',σ',q4⟩,cU⟩:=Stm.wp (de eu hb h hn) fr (.inLoop x :: k) cs;obtain ⟨ch,df'⟩:=a';simp only at q2 q3 q4;subst q1;subst q2;have hl:Stm S.P (.loop x) _ ⟨ch,[]⟩ w':=ka hD (rc:=.loop x) (by simp[yR,hb]) q4 q3;obtain ⟨e2,a2,w2,b9,lD⟩:=hl fr k cs;exact ⟨e2,a2,w2,b9,.of_steps (Steps.trans cU (.one step_inLoop)) lD⟩
  all_goals (split at hc<;>(try split at hc)<;>simp at hc)
 | @loopE b st aj e h1 ak de =>
  intro rc hc A σ w tm h hn;cases rc<;>simp only[yR,Ag,reduceCtorEq,and_false,exists_false,Option.some.injEq] at hc
  case loop x =>
   obtain ⟨b',hb,he⟩:=hc;cases he;have eu:qv b=true∨yN S:=hD.imp (fun h=>by simpa[qv] using h) id;intro fr k cs;obtain ⟨ex,a',w',hq,cU⟩:=Stm.wp (de eu hb h hn) fr (.inLoop x :: k) cs;obtain ⟨q1,q2⟩:=hq;subst q1;cases e with
   | norm=>exact absurd rfl ak
   | exit j=>exact ⟨_,a',w',⟨rfl,q2⟩,.pass (x:=.inLoop x) rfl (fun _ _=>.inl (by simp[exOf])) cU⟩
   | ret=>exact ⟨_,a',w',⟨rfl,q2⟩,.pass (x:=.inLoop x) rfl (fun _ _=>.inl (by simp[exOf])) cU⟩
  all_goals (split at hc<;>(try split at hc)<;>simp at hc)
 | exit id st =>
  intro rc hc A σ w tm h hn;cases rc<;>simp only[yR,Ag,reduceCtorEq,and_false,exists_false,Option.some.injEq] at hc
  case exit i=>cases hc;exact wp_exit ⟨rfl,rfl,hn,A,σ,h⟩
  all_goals (split at hc<;>(try split at hc)<;>simp at hc)
 | ret st =>
  intro rc hc A σ w tm h hn;cases rc<;>simp only[yR,Ag,reduceCtorEq,and_false,exists_false,Option.some.injEq] at hc
  case ret=>exact wp_ret ⟨rfl,rfl,hn,A,σ,h⟩
  all_goals (split at hc<;>(try split at hc)<;>simp at hc)
 | cv hcv h1 de =>intro rc hc A σ w tm h hn;obtain ⟨w2,r2,j2,h⟩:=h;obtain ⟨A',σ',h'⟩:=hcv A0 O w2 A σ w tm h;exact de hD hc ⟨w2,r2,j2,h'⟩ hn
 | cvR h1 hcv de =>intro rc hc A σ w tm h hn;refine (de hD hc h hn).mono ?_;rintro ex a w' ⟨q1,q2,q3,A',σ',w2,r2,j2,q4⟩;obtain ⟨A2,σ2,h'⟩:=hcv A0 O w2 A' σ' w' _ q4;exact ⟨q1,q2,q3,A2,σ2,w2,r2,j2,h'⟩
end
end
section
open Go Go.RowKit
section
variable {S:Seat} {A0:Nat->Prop} {O:Hnd} {w0:World} {A:Nat->Prop} {σ:Nat->Option Nat} {w w':World} {st aa:ASt} {tm:Array Value}
def zkN (h:SRel S A0 O w0 A σ w st tm) {x:AV} {rv:Value} (g:Got S A σ w st x rv) {t:TypeId} {n:Option Nat} (hs:cAgg S.P t=some n) {cs:List AV} {off:Nat} (he:Ab.cellsAt st.hp x=some (cs,off)) {y:AV} (hy:zcb cs off n=some y) :
  ∃ a v,rv=.pointer (some a)∧(loadVar t a).run S.P w=.ok v w∧Got S A σ w st y v:=by
 obtain ⟨b,o0,u,e,h2,h3⟩:=h.cellsAt g he;cases n with
 | none =>
  simp only[zcb] at hy;split at hy
  ·rename_i a hx;split at hy
   ·cases hy;have hi:off < cs.length:=(Ac.1 hx).1;exact ⟨_,u off,e,by simp[loadVar,zey hs,h2 off hi],h3 _ _ hx⟩
   ·cases hy
  ·cases hy
 | some n =>
  obtain ⟨k1,i,k2,rfl,k3⟩:=zex hs w;simp only[zcb] at hy;split at hy
  ·rename_i hle;cases hy;have hl:=run_loadCells (P:=S.P) w ⟨b,o0+off,none⟩ i.size (fun j=>u (off+j)) (fun j hj=>by rw[Addr.add_lit,BB];exact h2 (off+j) (by omega));refine ⟨_,.agg ((List.range i.size).map fun j=>u (off+j)).toArray,e,by simp[loadVar,k1,Go.sizeOf,typeInfo,k2,hl],.agg (by simp;omega) fun j a hj => ?_,fun s hs => ?_⟩
   ·have bB:j < i.size:=by have:=(Ac.1 hj).1;simp at this;omega
    rw[AZ bB,BH] at hj;have:=(h3 _ _ hj).rel;simpa[Array.getD,bB] using this
   ·rw[AV.refs] at hs;have ah:=zfV hs;rw[zm] at ah;obtain ⟨a,ha,nq⟩:=ah;obtain ⟨j,hj⟩:=AA.1 ha;exact (h3 j a hj).dang s nq
  ·cases hy
def zhi (tm:Array Value):ResultVar->Sem Value
 | .tmp t=>pure (tm.getD t undef)
 | .cell a t=>do loadVar t (← asAddr (tm.getD a undef))
def resVal_ok (h:SRel S A0 O w0 A σ w st tm) {r:ResultVar} {a:ARes} (hc:cRes S.P r=some a) {y:AV} (hy:wC st a=some y):∃ v,(zhi tm r).run S.P w=.ok v w∧Got S A σ w st y v:=by
 cases r with
 | tmp t =>simp only[cRes,Option.some.injEq] at hc;subst hc;simp only[wC,Option.some.injEq] at hy;subst hy;exact ⟨_,by simp[zhi],h.fr t,h.dang t⟩
 | cell t ty =>
  simp only[cRes,Ag] at hc;obtain ⟨n,hn,rfl⟩:=hc;simp only[wC] at hy;split at hy
  ·rename_i cs off he;obtain ⟨a,v,e,hr,hg⟩:=zkN h ⟨h.fr t,h.dang t⟩ hn he hy;exact ⟨v,by simp[zhi,e,asAddr,hr],hg⟩
  ·cases hy
def resL_ok (h:SRel S A0 O w0 A σ w st tm):∀ (l:List ResultVar) (res:List ARes) (ys:List AV),zj (cRes S.P) l=some res->zj (wC st) res=some ys ->
  ∃ vs:List Value,(l.mapM (zhi tm)).run S.P w=.ok vs w∧ys.length=vs.length∧∀ (i:Nat) (y:AV),ys[i]? = some y->Got S A σ w st y (vs.getD i undef)
 | [],res,ys,h1,h2=>by
  simp only[zj,Option.some.injEq] at h1;subst h1;simp only[zj,Option.some.injEq] at h2;subst h2;exact ⟨[],by simp,rfl,by simp⟩
 | r :: l,res,ys,h1,h2=>by
  simp only[zj] at h1;split at h1
  ·rename_i a mS ha aT;simp only[Option.some.injEq] at h1;subst h1;simp only[zj] at h2;split at h2
   ·rename_i y bN hy dh;simp only[Option.some.injEq] at h2;subst h2;obtain ⟨v,k1,k2⟩:=resVal_ok h ha hy;obtain ⟨vs,q1,q2,q3⟩:=resL_ok h l mS bN aT dh;refine ⟨v :: vs,by simp[CV,k1,q1],by simp[q2],fun i x hx => ?_⟩;cases i with
    | zero=>simp at hx;subst hx;exact k2
    | succ i=>simp at hx;simpa using q3 i x hx
   ·cases h2
  ·cases h1
def zfk (h:SRel S A0 O w0 A σ w st tm) {fn:Func} {res:List ARes} {ys:List AV} (h1:zj (cRes S.P) fn.results.toList=some res) (h2:zj (wC st) res=some ys) :
  ∃ vs:Array Value,(results fn tm).run S.P w=.ok (if h:vs.size=1 then vs[0] else .tuple vs) w∧ys.length=vs.size∧∀ (i:Nat) (y:AV),ys[i]? = some y->Got S A σ w st y (vs.getD i undef):=by
 obtain ⟨vs,k1,k2,k3⟩:=resL_ok h _ _ _ h1 h2;refine ⟨vs.toArray, ?_,by simpa using k2,fun i y hy=>by simpa[Aq] using k3 i y hy⟩
 have e2:results fn tm=(do let vs ← fn.results.mapM (zhi tm);pure (if h:vs.size=1 then vs[0] else .tuple vs)) :=
  congrArg (fun (f:ResultVar->Sem Value)=>(do let vs ← fn.results.mapM f;pure (if h:vs.size=1 then vs[0] else Value.tuple vs):Sem Value)) (funext fun x=>by cases x<;>rfl)
 rw[e2,Array.mapM_eq_mapM_toList];simp[k1]
def noHnd:Hnd:=⟨fun _=>False,fun _=>none⟩
def retR_of {β:Nat->Option Nat} (hβ:∀ i b,β i=some b->w.heap.size<=b∧b < w'.heap.size) (aR:∀ i j b,β i=some b->β j=some b->i=j) {ys:List AV} {vs:Array Value} (hl:ys.length=vs.size)
  (ha:∀ (i:Nat) (x:AV),ys[i]? = some x->bm S (jE A β w w') w' (β i) x (vs.getD i undef)):zkt S A w w' (qN ys) (if h:vs.size=1 then vs[0] else .tuple vs):=by
 by_cases h1:vs.size=1
 ·rw[dif_pos h1];have e:vs[0]=vs.getD 0 undef:=by simp[Array.getD,h1]
  match ys,hl,ha with
  | [x],_,ha =>
   have hx:=ha 0 x rfl;rw[← e] at hx;rw[show qN [x]=x from rfl];by_cases ht:∃ rs,x=.tup rs
   ·obtain ⟨rs,rfl⟩:=ht;have cO:VR0 S (jE A β w w') w' (.tup rs) vs[0]:=hx.2;have kJ:=cO.mono (A':=jE A (fun _=>none) w w') (fun b hb=>⟨hb.1,hb.2.1,by simp⟩) (fun _ _=>rfl);generalize vs[0]=v at kJ;refine ⟨fun _=>none,by simp,by simp, ?_⟩;cases kJ with
    | tup q1 q2=>exact ⟨_,rfl,q1,fun i y hy=>jQ (q2 i y hy)⟩
   ·refine ⟨β,hβ,aR, ?_⟩;cases x with
    | tup rs=>exact absurd ⟨rs,rfl⟩ ht
    | _=>exact hx
  | [],hl,_=>simp at hl;omega
  | _ :: _ :: _,hl,_=>simp at hl;omega
 ·rw[dif_neg h1];have e:qN ys=.tup ys:=by
   match ys,hl with
   | [],_=>rfl
   | [x],hl=>simp at hl;omega
   | _ :: _ :: _,_=>rfl
  rw[e];exact ⟨β,hβ,aR,vs,rfl,hl,ha⟩
def zjS:∀ (rs:List AV) (i j:Nat) (x y:AV) (s:Nat),qz (AV.refsL rs)=true->rs[i]? = some x->rs[j]? = some y->s∈x.refs->s∈y.refs->i=j:=by
 have app:∀ (a b:List Nat),qz (a++b)=true->qz b=true∧∀ s,s∈a->s∈b->False:=by
  intro a b
  induction a with
  | nil=>intro h;exact ⟨h,by simp⟩
  | cons x a ih =>
   intro h;simp only[AD,qz,An,AW,A8,decide_eq_false_iff_not,Ah] at h;obtain ⟨k1,k2⟩:=ih h.2;refine ⟨k1,fun s hs hb => ?_⟩;rcases As.1 hs with rfl | hs
   ·exact h.1 (.inr hb)
   ·exact k2 s hs hb
 intro rs
 induction rs with
 | nil=>intro i j x y s _ h;simp at h
 | cons a rs ih =>
  intro i j x y s hn hi hj hx hy;rw[AV.refsL] at hn;obtain ⟨k1,k2⟩:=app _ _ hn;cases i with
  | zero =>
   cases j with
   | zero=>rfl
   | succ j =>simp at hi hj;subst hi;exact (k2 s hx (zm.2 ⟨y,Ad hj,hy⟩)).elim
  | succ i =>
   cases j with
   | zero =>simp at hi hj;subst hj;exact (k2 s hy (zm.2 ⟨x,Ad hi,hx⟩)).elim
   | succ j =>simp at hi hj;rw[ih i j x y s k1 hi hj hx hy]
def zk4 {Ab:Nat->Prop} {O:Hnd} {wb:World} (h:SRel S Ab O wb A0 σ w' st tm) (hA:∀ b,A0 b->(A b∨w.heap.size<=b)∧b < w'.heap.size) (hσ:∀ s b,σ s=some b->w.heap.size<=b∧b < w'.heap.size) {own:Bool} {res:List ARes} {r:AV} {outs:zdg} {fn:Func}
  (h1:zj (cRes S.P) fn.results.toList=some res) (he:jd own [] res st=some (r,outs)):outs=[]∧∃ v,(results fn tm).run S.P w'=.ok v w'∧zkt S A w w' r v:=by
 unfold jd at he;split at he
 ·rename_i rs nu;obtain ⟨vs,k1,k2,k3⟩:=zfk h h1 nu;cases own with
  | true =>
   simp only[if_true] at he;split at he
   ·rename_i hnd;split at he
    ·rename_i ys dh;simp only[Option.some.injEq,Prod.mk.injEq] at he;obtain ⟨rfl,rfl⟩:=he;obtain ⟨d1,d2⟩:=zG dh
     let β:Nat->Option Nat:=fun i=>match rs[i]? with | some (.lsl s z 0 n)=>(match st.hp s with | some (.arr z' es)=>if z=z'∧n=es.length∧bK s=false then σ s else none | _=>none) | _=>none
     have hβ:∀ i b,β i=some b->∃ s x,rs[i]? = some x∧s∈x.refs∧σ s=some b:=by
      intro i b hb;simp only[β] at hb;split at hb
      ·rename_i s z n hi;split at hb
       ·split at hb
        ·exact ⟨s,_,hi,by simp[AV.refs],hb⟩
        ·cases hb
       ·cases hb
      ·cases hb
     refine ⟨rfl,_,k1,retR_of (β:=β) (fun i b hb => ?_) (fun i j b hi hj => ?_) (by omega) fun i y hy => ?_⟩
     ·obtain ⟨s,x,_,_,hs⟩:=hβ i b hb;exact hσ s b hs
     ·obtain ⟨s,x,q1,q2,q3⟩:=hβ i b hi;obtain ⟨s',x',mV,mU,mT⟩:=hβ j b hj;obtain rfl:=h.inj s s' b q3 mT;exact zjS rs i j x x' s hnd.1 q1 mV q2 mU
     ·have eR:∀ b,A0 b->jE A β w w' b:=fun b hb=>⟨(hA b hb).1,(hA b hb).2,fun i e=>by
       obtain ⟨s,x,_,_,hs⟩:=hβ i b e;exact (h.dom s b hs).2.2.1 hb⟩
      obtain ⟨x0,aC,aF⟩:=d2 i y hy;have hg:=k3 i x0 aC;have plain:β i=none->x0.refs=[]->y=x0->bm S (jE A β w w') w' (β i) y (vs.getD i undef):=(by rintro hb hr rfl;rw[hb];exact jQ ((hg.rel.to0 hr).mono eR fun _ _=>rfl));have other:(∀ s z n,x0≠.lsl s z 0 n)->bm S (jE A β w w') w' (β i) y (vs.getD i undef):=by
       intro ak;have:(if x0.refs.isEmpty then some x0 else none)=some y:=by
        cases x0 with
        | lsl s z off n =>
         cases off with
         | zero=>exact absurd rfl (ak _ _ _)
         | succ off=>exact aF
        | _=>exact aF
       split at this
       ·rename_i hr;have e:=Option.some.inj this;refine plain ?_ (by simpa using hr) e.symm;clear aF this e;cases x0 with
        | lsl s z off n=>simp[AV.refs] at hr
        | _=>simp[β,aC]
       ·cases this
      by_cases hl:∃ s z n,x0=.lsl s z 0 n
      ·obtain ⟨s,z,n,rfl⟩:=hl;simp only[zab] at aF;split at aF
       ·rename_i z' es hb;split at aF
        ·rename_i az;cases aF;obtain ⟨rfl,rfl,cm⟩:=az;have hβi:β i=σ s:=by simp[β,aC,hb,cm]
         rw[hβi];obtain ⟨b0,bb⟩:=h.hp s _ hb;refine (show qY S _ w' (σ s) z es (vs.getD i undef) from ⟨b0, ?_⟩);rcases hg.rel.lsl_inv with ⟨_,q2,q3,q4⟩ | ⟨b,o,cap,cs,el,e1,q0,q1,q2,q3,q4,q5⟩
         ·exact .inl ⟨q3,Az.1 q2,by rw[q4]⟩
         ·rcases bb with ⟨m1,m2⟩ | ⟨b',aK,bW,m1,m2,m3,m4,m5⟩
          ·rw[m1] at q0;cases q0
          ·obtain rfl:b'=b:=Option.some.inj (m1.symm.trans q0);rw[q3] at m2;cases m2;have ho:o=0:=by have:=q2 (.inr rfl);omega
           subst ho;exact .inr ⟨b',cap,cs,el,q0,e1,q1,q5,q3,by simpa using q4,m4,fun i' e' c x h1 h2=>(m5 i' e' c x h1 h2).mono eR fun _ _=>rfl⟩
        ·cases aF
       ·cases aF
      ·exact other fun s z n e=>hl ⟨s,z,n,e⟩
    ·cases he
   ·cases he
  | false =>
   simp only[Ap,if_false,if_true] at he;split at he
   ·rename_i ys dh;simp only[Option.some.injEq,Prod.mk.injEq] at he;obtain ⟨rfl,rfl⟩:=he;obtain ⟨d1,d2⟩:=zG dh;refine ⟨rfl,_,k1,retR_of (β:=fun _=>none) (by simp) (by simp) (by omega) fun i y hy => ?_⟩;obtain ⟨x0,aC,aF⟩:=d2 i y hy;exact jQ (wy h (fun b hb=>⟨(hA b hb).1,(hA b hb).2,by simp⟩) (k3 i x0 aC).rel aF fun s b hs _=>⟨.inr (hσ s b hs).1,(hσ s b hs).2,by simp⟩)
   ·cases he
 ·cases he
def export_ok (h:SRel S A noHnd w A0 σ w' st tm) {own:Bool} {res:List ARes} {r:AV} {outs:zdg} {fn:Func} (h1:zj (cRes S.P) fn.results.toList=some res) (he:jd own [] res st=some (r,outs)) :
  outs=[]∧∃ v,(results fn tm).run S.P w'=.ok v w'∧zkt S A w w' r v :=
 zk4 h (fun b hb=>⟨(h.Asub b hb).imp id fun e=>e.resolve_right (fun e=>e),h.Alt b hb⟩) (fun s b hs=>⟨(h.dom s b hs).2.2.2.resolve_right (fun e=>e),(h.dom s b hs).2.1⟩) h1 he
def zbp:∀ (i:Nat) (args:List AV),jz [] i args=true->∀ x∈args,zI x=false
 | _,[],_,_,hx=>by cases hx
 | i,a :: r,h,x,hx=>by
  simp only[jz,handed,Co,Db,CY,An,beq_iff_eq] at h;rcases As.1 hx with rfl | hx
  ·exact h.1
  ·exact zbp (i+1) r h.2 x hx
def zau (muts:List Nat):∀ (i:Nat) (args:List AV),(∀ x∈args,zI x=false)->zX muts i args=fun _=>none
 | _,[],_=>rfl
 | i,a :: r,h=>by
  have ih:=zau muts (i+1) r fun x hx=>h x (Af _ hx);have ha:=h a Al;cases a with
  | own z es=>simp[zI] at ha
  | _=>simp only[zX,ih]
def zeh (muts:List Nat):∀ (i:Nat) (args:List AV) (k:Nat),(∀ x∈args,zI x=false)->je muts i args k=.bot∨(i<=k∧args[k - i]? = some (je muts i args k))
 | _,[],_,_=>.inl rfl
 | i,a :: r,k,h=>by
  have ih:=zeh muts (i+1) r k fun x hx=>h x (Af _ hx);have ha:=h a Al;simp only[je,upd];split
  ·rename_i e;subst e;refine .inr ⟨AG _, ?_⟩;simp only[CB,Ck];cases a with
   | own z es=>simp[zI] at ha
   | _=>rfl
  ·rcases ih with ih | ⟨h1,h2⟩
   ·exact .inl ih
   ·refine .inr ⟨by omega, ?_⟩;rw[show k - i=(k - (i+1))+1 by omega,AY];exact h2
def enter_ok {args:List AV} {vs:Array Value} (hf:jz [] 0 args=true) (hl:vs.size=args.length) (hA:(∀ b,A b->b < w.heap.size)∧Inv S w) (ha:∀ (i:Nat) (x:AV),args[i]? = some x->VR0 S A w x (vs.getD i undef)) (m:Nat) :
  SRel S A noHnd w A (fun _=>none) w (enter [] args) (vs++Array.replicate m undef):=by
 have ho:=zbp 0 args hf;have hh:(enter [] args).hp=fun _=>none:=by simp only[enter];exact zau [] 0 args ho
 have bj:∀ k,(enter [] args).fr k=.bot∨VR0 S A w ((enter [] args).fr k) ((vs++Array.replicate m undef).getD k undef):=by
  intro k;rcases zeh [] 0 args k ho with h | ⟨_,h⟩
  ·exact .inl h
  ·refine .inr ?_;simp only[CA] at h;have:=ha k _ h;have hk:k < vs.size:=by rw[hl];exact (Ac.1 h).1
   have e:(vs++Array.replicate m undef).getD k undef=vs.getD k undef:=(by rw[Aq,Cc hk,Aq]);rw[e];exact this
 refine ⟨fun k => ?_,fun s blk hb => ?_,fun k s hs => ?_,fun s cs hs => ?_,fun s b hs => ?_,fun s s' b hs => ?_,hA.1,fun b hb=>.inl hb,.refl _ _,(fun s e he=>by cases he),fun b hb=>hb.elim,fun _ _ h=>h,hA.2⟩
 ·rcases bj k with h | h
  ·rw[h];exact .of0 (.bot _)
  ·exact .of0 h
 ·rw[hh] at hb;cases hb
 ·rcases bj k with h | h
  ·rw[h] at hs;simp[AV.refs] at hs
  ·exact (yW h s hs).elim
 ·rw[hh] at hs;cases hs
 ·cases hs
 ·cases hs
def ziT (hS:qO S) {g id:Nat} {fn:Func} {f:AFunc} (hg:S.P.funcs[g]? = some fn) (hc:zgs S id fn=some f) (cR:zbX id S.muts=[]) (hD:qv f.body=true∨yN S) {args:List AV} {r:AV} {outs:zdg}
  (hb:BodyR (zh S) f args r outs):outs=[]∧zeV S g args r:=by
 unfold zgs at hc;split at hc
 ·rename_i body res cq aT;split at hc
  ·rename_i az;have gL:=az.1;cases hc;obtain ⟨hlen,bQ,e,aa,hex,dZ,aE⟩:=hb;simp only at hlen bQ hex aE hD;rw[cR] at bQ aE hex;obtain ⟨c,gm,lx⟩:∃ c,fn.body=some c∧yR S fn.ntmps c=some body:=by
    cases gm:fn.body with
    | none=>simp[gm] at cq
    | some c=>simp[gm] at cq;exact ⟨c,rfl,cq⟩
   have main:∀ (A:Nat->Prop) (w:World) (vs:Array Value),vs.size=args.length->((∀ b,A b->b < w.heap.size)∧Inv S w)->JR S A (fun _=>False) w->(∀ (i:Nat) (x:AV),args[i]? = some x->VR0 S A w x (vs.getD i undef)) ->
     c.wp S.P (fun ex a w'=>(ex=.normal∨ex=.ret)∧a.defers=[]∧∃ A' σ',zbq S A noHnd w A' σ' w' aa a.tmps) { tmps:=vs++Array.replicate (fn.ntmps - vs.size) undef,defers:=[] } w:=by
    intro A w vs hl hA hJ ha;refine wp_mono (Stm.wp (zfC hS hex hD lx ⟨w,.refl S w,hJ,enter_ok bQ hl hA ha _⟩ (by simp;omega))) ?_;rintro ex a w' ⟨q1,q2,q3,q4⟩;refine ⟨?_,q2,q4⟩;subst q1;rcases dZ with rfl | rfl
    ·exact .inl rfl
    ·exact .inr rfl
   have nD:outs=[]:=by
    unfold jd at aE;split at aE
    ·split at aE
     ·split at aE
      ·split at aE
       ·simp only[Option.some.injEq,Prod.mk.injEq] at aE;exact aE.2.symm
       ·cases aE
      ·cases aE
     ·simp only[if_true] at aE;split at aE
      ·simp only[Option.some.injEq,Prod.mk.injEq] at aE;exact aE.2.symm
      ·cases aE
    ·cases aE
   refine ⟨nD,fun A w vs hl hA hJ ha => ?_⟩;refine calls_of_wp hg gm (wp_mono (main A w vs hl hA hJ ha) ?_);rintro ex a w' ⟨q1,q2,A',σ',w2,r2,j2,q3⟩;obtain ⟨_,v,k1,k2⟩:=export_ok q3 aT aE;have cL:=r2.keep q3.keep;have cL:KeepO S.jg w w':=⟨cL.os,cL.tape,cL.output,cL.size,fun k hk hn=>cL.block k hk fun e=>e.elim (fun e=>e) hn⟩;have hj:=(q3.jpreA j2).jn;have k2:=k2.same r2.size.symm;rcases q1 with rfl | rfl
   ·exact ⟨q2,v,k1,v,rfl,cL,hj,k2⟩
   ·exact ⟨q2,v,k1,v,rfl,cL,hj,k2⟩
  ·cases hc
 ·cases hc
def jw (muts:List Nat) (ι:Nat->Option Nat):Nat->List AV->Nat->Option Nat
 | _,[]=>fun _=>none
 | i,x :: r=>match x with | .own _ _=>upd (jw muts ι (i+1) r) (ql muts i) (ι i) | _=>jw muts ι (i+1) r
def mB {muts:List Nat} {i j:Nat} (hi:i < 1000) (hj:j < 1000) (h:ql muts i=ql muts j):i=j:=by simp only[ql] at h;split at h<;>split at h<;>omega
def zkJ {muts:List Nat} {i:Nat} (hi:i < 1000):bK (ql muts i)=muts.contains i:=by
 simp only[ql];split
 ·rename_i h;rw[h,bK,An,Nat.ble_eq,B3];omega
 ·rename_i h;have h':muts.contains i=false:=by simpa using h
  rw[h',bK,Bool.and_eq_false_iff];right;rw[← Cf,B3];omega
def jJ (muts:List Nat) (ι:Nat->Option Nat):∀ (i:Nat) (args:List AV) (s:Nat),(zX muts i args s=none∧jw muts ι i args s=none) ∨
  ∃ j z es,args[j]? = some (.own z es)∧s=ql muts (i+j)∧zX muts i args s=some (.arr z es)∧jw muts ι i args s=ι (i+j)
 | _,[],_=>.inl ⟨rfl,rfl⟩
 | i,a :: r,s=>by
  have ih:=jJ muts ι (i+1) r s
  have other:zX muts i (a :: r) s=zX muts (i+1) r s->jw muts ι i (a :: r) s=jw muts ι (i+1) r s->(zX muts i (a :: r) s=none∧jw muts ι i (a :: r) s=none) ∨
    ∃ j z es,(a :: r)[j]? = some (.own z es)∧s=ql muts (i+j)∧zX muts i (a :: r) s=some (.arr z es)∧jw muts ι i (a :: r) s=ι (i+j):=by
   intro e1 e2;rw[e1,e2];rcases ih with h | ⟨j,z,es,h1,h2,h3,h4⟩
   ·exact .inl h
   ·exact .inr ⟨j+1,z,es,by simpa using h1,by rw[h2];congr 1;omega,h3,by rw[h4];congr 1;omega⟩
  cases a with
  | own z es =>
   by_cases e:s=ql muts i
   ·subst e;exact .inr ⟨0,z,es,rfl,rfl,by simp only[zX,qG],by simp only[jw,qG];rfl⟩
   ·exact other (by simp only[zX,zcI _ _ _ e]) (by simp only[jw,zcI _ _ _ e])
  | _=>exact other rfl rfl
def zbU (muts:List Nat):∀ (i:Nat) (args:List AV) (j z:Nat) (es:List (List AV)),args[j]? = some (.own z es)->zX muts i args (ql muts (i+j))≠none
 | _,[],_,_,_,h=>by simp at h
 | i,a :: r,j,z,es,h=>by
  cases j with
  | zero =>simp at h;subst h;simp[zX,upd]
  | succ j =>
   have ih:=zbU muts (i+1) r j z es (by simpa using h);rw[show i+1+j=i+(j+1) by omega] at ih;cases a with
   | own z' aX =>
    simp only[zX,upd];split
    ·simp
    ·exact ih
   | _=>exact ih
def zei (muts:List Nat):∀ (i:Nat) (args:List AV) (k:Nat),je muts i args k=.bot∨∃ x,i<=k∧args[k - i]? = some x∧je muts i args k=(match x with | .own z es=>.lsl (ql muts k) z 0 (List.length es) | x=>x)
 | _,[],_=>.inl rfl
 | i,a :: r,k=>by
  have ih:=zei muts (i+1) r k;simp only[je,upd];split
  ·rename_i e;subst e;exact .inr ⟨a,AG _,by simp,rfl⟩
  ·rcases ih with ih | ⟨x,h1,h2,h3⟩
   ·exact .inl ih
   ·refine .inr ⟨x,by omega, ?_,h3⟩;rw[show k - i=(k - (i+1))+1 by omega,AY];exact h2
def eU (muts:List Nat) (args:List AV) (ι:Nat->Option Nat) (w:World):Hnd :=
 ⟨zie ι,fun s=>if bK s=true then (match zX muts 0 args s,jw muts ι 0 args s with
  | some (.arr z es),some b=>(match w.heap[b]? with | some (.cells cs el _)=>some ⟨some b,z,es.length,el,cs.size⟩ | _=>some ⟨some b,z,es.length,0,0⟩)
  | some (.arr z es),none=>some ⟨none,z,es.length,0,0⟩
  | _,_=>none) else none⟩
def zcq {muts:List Nat} {ι:Nat->Option Nat}:∀ (i:Nat) (args:List AV) (s b:Nat),jw muts ι i args s=some b->∃ j,ι j=some b
 | _,[],s,b,h=>by cases h
 | i,x :: r,s,b,h=>by
  unfold jw at h;split at h
  ·unfold upd at h;split at h
   ·exact ⟨_,h⟩
   ·exact zcq (i+1) r s b h
  ·exact zcq (i+1) r s b h
def zkZ {muts:List Nat} {args:List AV} {ι:Nat->Option Nat} {w2:World} (h:∀ i b,ι i=some b->w2.heap[b]? = w.heap[b]?):eU muts args ι w2=eU muts args ι w:=by
 unfold eU;congr 1;funext s;split
 ·cases h1:zX muts 0 args s with
  | none=>rfl
  | some blk =>
   cases blk with
   | var cs=>rfl
   | arr z es =>
    cases h2:jw muts ι 0 args s with
    | none=>rfl
    | some b =>obtain ⟨j,hj⟩:=zcq 0 args s b h2;simp only[h j b hj]
 ·rfl
def bm.same {w2:World} {b?:Option Nat} {x:AV} {v:Value} (h:bm S A w b? x v) (hA:∀ b,A b->w2.heap[b]? = w.heap[b]?) (hb:∀ b,b? = some b->w2.heap[b]? = w.heap[b]?):bm S A w2 b? x v:=by
 by_cases ho:∃ z es,x=.own z es
 ·obtain ⟨z,es,rfl⟩:=ho;obtain ⟨h0,h1 | ⟨b,cap,us,el,h1,h2,h3,h4,h5,h6,h7,h8⟩⟩:=h
  ·exact ⟨h0,.inl h1⟩
  ·exact ⟨h0,.inr ⟨b,cap,us,el,h1,h2,h3,h4,by rw[hb b h1];exact h5,h6,h7,fun i e c x hi hc=>(h8 i e c x hi hc).mono (fun _ h=>h) hA⟩⟩
 ·obtain ⟨k1,k2⟩:=zaY h (by cases x<;>first | rfl | exact absurd ⟨_,_,rfl⟩ ho)
  rw[k1];exact jQ (k2.mono (fun _ h=>h) hA)
def enterM_ok {muts:List Nat} {args:List AV} {vs:Array Value} {ι:Nat->Option Nat} (hl:vs.size=args.length) (hn:args.length<=1000) (hA:(∀ b,A b->b < w.heap.size)∧Inv S w)
  (hι:(∀ i b,ι i=some b->i < args.length∧b < w.heap.size∧¬ A b∧∀ p∈S.globB,p≠b)∧∀ i j b,ι i=some b->ι j=some b->i=j)
  (ha:∀ (i:Nat) (x:AV),args[i]? = some x->bm S A w (ι i) x (vs.getD i undef)) (m:Nat) :
  SRel S A (eU muts args ι w) w A (jw muts ι 0 args) w (enter muts args) (vs++Array.replicate m undef):=by
 have ae:∀ (j:Nat) (x:AV),args[j]? = some x->j < 1000:=fun j x h=>by have:=(Ac.1 h).1;omega
 have cP:∀ (j z:Nat) (es:List (List AV)),args[j]? = some (.own z es)->zX muts 0 args (ql muts j)=some (.arr z es)∧jw muts ι 0 args (ql muts j)=ι j:=by
  intro j z es h;have h0:=zbU muts 0 args j z es h;rw[Ba] at h0;rcases jJ muts ι 0 args (ql muts j) with ⟨h1,_⟩ | ⟨j',z',aX,h1,h2,h3,h4⟩
  ·exact absurd h1 h0
  ·rw[Ba] at h2 h4;obtain rfl:=mB (ae j _ h) (ae j' _ h1) h2;rw[h] at h1;cases h1;exact ⟨h3,h4⟩
 have bj:∀ k,(enter muts args).fr k=.bot∨Got S A (jw muts ι 0 args) w (enter muts args) ((enter muts args).fr k) ((vs++Array.replicate m undef).getD k undef):=by
  intro k;rcases zei muts 0 args k with h | ⟨x,_,h1,h2⟩
  ·exact .inl h
  ·refine .inr ?_;rw[CA] at h1;have hk:k < vs.size:=by rw[hl];exact (Ac.1 h1).1
   have e:(vs++Array.replicate m undef).getD k undef=vs.getD k undef:=(by rw[Aq,Cc hk,Aq]);rw[e];have hx:=ha k x h1;show Got S A _ w _ (je muts 0 args k) _;rw[h2];by_cases ho:∃ z es,x=.own z es
   ·obtain ⟨z,es,rfl⟩:=ho;obtain ⟨k1,k2⟩:=cP k z es h1;refine ⟨(ym (show qY S A w (ι k) z es _ from hx) k2).1,fun s hs => ?_⟩;rw[AV.refs,Ai] at hs;subst hs;show zX muts 0 args _≠none;rw[k1];simp
   ·have aC:=zaY hx (by cases x<;>first | rfl | exact absurd ⟨_,_,rfl⟩ ho)
    clear h2 hx h1;cases x with
    | own z es=>exact absurd ⟨_,_,rfl⟩ ho
    | _=>exact ⟨.of0 aC.2,fun s hs=>(yW aC.2 s hs).elim⟩
 have cS:∀ s blk,(enter muts args).hp s=some blk->∃ j z es,args[j]? = some (.own z es)∧s=ql muts j∧blk=.arr z es∧jw muts ι 0 args s=ι j:=by
  intro s blk hb;have hb:zX muts 0 args s=some blk:=hb;rcases jJ muts ι 0 args s with ⟨h1,_⟩ | ⟨j',z',aX,h1,h2,h3,h4⟩
  ·rw[h1] at hb;cases hb
  ·rw[h3] at hb;cases hb;rw[Ba] at h2 h4;exact ⟨j',z',aX,h1,h2,rfl,h4⟩
 have im:∀ s b,jw muts ι 0 args s=some b->∃ j z es,args[j]? = some (.own z es)∧s=ql muts j∧zX muts 0 args s=some (.arr z es)∧ι j=some b:=by
  intro s b hs;rcases jJ muts ι 0 args s with ⟨_,h1⟩ | ⟨j',z',aX,h1,h2,h3,h4⟩
  ·rw[h1] at hs;cases hs
  ·rw[Ba] at h2 h4;exact ⟨j',z',aX,h1,h2,h3,h4 ▸ hs⟩
 refine ⟨fun k => ?_,fun s blk hb => ?_,fun k s hs => ?_,fun s cs hs => ?_,fun s b hs => ?_,fun s s' b h1 h2 => ?_,hA.1,fun b hb=>.inl hb,.refl _ _,fun s e he => ?_,fun b ⟨i,hi⟩=>(hι.1 i b hi).2.1,fun p hp ⟨i,hi⟩=>(hι.1 i _ hi).2.2.2 p hp rfl,hA.2⟩
 ·rcases bj k with h | h
  ·rw[h];exact .of0 (.bot _)
  ·exact h.rel
 ·obtain ⟨j,z,es,h1,h2,rfl,h4⟩:=cS s blk hb;subst h2;exact (ym (show qY S A w (ι j) z es _ from ha j _ h1) h4).2
 ·rcases bj k with h | h
  ·rw[h] at hs;simp[AV.refs] at hs
  ·exact h.dang s hs
 ·obtain ⟨_,_,_,_,_,h,_⟩:=cS s _ hs;cases h
 ·obtain ⟨j,z,es,h1,h2,h3,h4⟩:=im s b hs;obtain ⟨_,q2,q3,_⟩:=hι.1 j b h4;exact ⟨by show zX muts 0 args s≠none;rw[h3];simp,q2,q3,.inr ⟨j,h4⟩⟩
 ·obtain ⟨j,_,_,_,e1,_,h4⟩:=im s b h1;obtain ⟨j',_,_,_,rG,_,lK⟩:=im s' b h2;rw[e1,rG,hι.2 j j' b h4 lK]
 ·simp only[eU] at he;split at he
  ·rename_i hf;split at he
   ·rename_i z es b hz hs;obtain ⟨j,z',aX,h1,h2,h3,h4⟩:=cS s _ hz;cases h3;have ho:qY S A w (ι j) z es (vs.getD j undef):=ha j _ h1;obtain ⟨_,⟨q1,_,_⟩ | ⟨b',cap,us,el,q1,_,_,_,q5,_⟩⟩:=ho
    ·rw[h4,q1] at hs;cases hs
    ·obtain rfl:b=b':=Option.some.inj ((hs.symm.trans h4).trans q1);simp only[q5,Option.some.injEq] at he;subst he;refine ⟨hf,hs,⟨es,hz,rfl⟩,fun b' aA => ?_⟩;cases aA;exact ⟨us,q5,rfl⟩
   ·rename_i z es hz hs;simp only[Option.some.injEq] at he;subst he;exact ⟨hf,hs,⟨es,hz,rfl⟩,by simp⟩
   ·cases he
  ·cases he
def zfn {st:ASt} {muts:List Nat} {outs:zdg} (h:zjQ st muts=some outs) {i:Nat} {es:List (List AV)} (hi:(i,es)∈outs):muts.contains i=true∧i < 1000∧∃ z,st.hp (1000+i)=some (.arr z es):=by
 obtain ⟨h1,h2⟩:=zG h;obtain ⟨j,hj⟩:=AA.1 hi;obtain ⟨i0,h3,h4⟩:=h2 j _ hj;have hm:=Ad h3;simp only[jG,BC,B3] at hm;split at h4
 ·rename_i z aX hz;simp only[Option.some.injEq,Prod.mk.injEq] at h4;obtain ⟨rfl,rfl⟩:=h4;exact ⟨by simpa[A8] using hm.1,hm.2,z,hz⟩
 ·cases h4
def zk5 {muts:List Nat} {args:List AV} {vs:Array Value} {ι:Nat->Option Nat} (hl:vs.size=args.length) (hn:args.length<=1000) (bQ:jz muts 0 args=true)
  (hι:(∀ i b,ι i=some b->i < args.length∧b < w.heap.size∧¬ A b∧∀ p∈S.globB,p≠b)∧∀ i j b,ι i=some b->ι j=some b->i=j)
  (ha:∀ (i:Nat) (x:AV),args[i]? = some x->bm S A w (ι i) x (vs.getD i undef))
  (h:SRel S A (eU muts args ι w) w A0 σ w' st tm) {res:List ARes} {r:AV} {outs:zdg} {fn:Func} (h1:zj (cRes S.P) fn.results.toList=some res) (hm:muts≠[]) (he:jd false muts res st=some (r,outs)) :
  ∃ v,(results fn tm).run S.P w'=.ok v w'∧zjq S A (yM ι outs) (zdf S args ι vs w w' outs) w w' r v:=by
 unfold jd at he;split at he
 ·rename_i rs nu;simp only[Ap,if_false,if_neg hm] at he;split at he
  ·rename_i hnd;split at he
   ·rename_i ys bE dh gJ;simp only[Option.some.injEq,Prod.mk.injEq] at he;obtain ⟨rfl,rfl⟩:=he;obtain ⟨us,k1,k2,k3⟩:=zfk h h1 nu;obtain ⟨d1,d2⟩:=zG dh
    -- what stays the caller's
    have fit:∀ (i:Nat) (x:AV),args[i]? = some x->zI x=handed muts i:=by
     have:∀ (i:Nat) (l:List AV),jz muts i l=true->∀ (j:Nat) (x:AV),l[j]? = some x->zI x=handed muts (i+j):=by
      intro i l
      induction l generalizing i with
      | nil=>intro _ j x h;simp at h
      | cons a l ih =>
       intro h j x hj;simp only[jz,An,beq_iff_eq] at h;cases j with
       | zero=>simp at hj;subst hj;simpa using h.1
       | succ j =>
        have:=ih (i+1) h.2 j x (by simpa using hj)
        rwa [show i+1+j=i+(j+1) by omega] at this
     intro i x hi;simpa using this 0 args bQ i x hi
    have kept:∀ i es,(i,es)∈bE->i < args.length->∃ z aZ el m,args[i]? = some (.own z aZ)∧(eU muts args ι w).k (1000+i)=some ⟨ι i,z,aZ.length,el,m⟩∧(∀ b cs bW fz,ι i=some b->w.heap[b]? = some (.cells cs bW fz)->bW=el∧cs.size=m):=by
     intro i es hi ae;obtain ⟨c1,c2,_⟩:=zfn gJ hi;have hx:=Aa ae;have ho:zI args[i]=true:=by rw[fit i _ hx];simp only[handed,c1,Da,CM,B3];exact c2
     cases pM:args[i] with
     | own z aZ =>
      rw[pM] at hx;have fh:ql muts i=1000+i:=by rw[ql,if_pos c1]
      have h0:=zbU muts 0 args i z aZ hx;rw[Ba,fh] at h0;rcases jJ muts ι 0 args (1000+i) with ⟨q1,_⟩ | ⟨j',z',aX,q1,q2,q3,q4⟩
      ·exact absurd q1 h0
      ·rw[Ba] at q2 q4;obtain rfl:i=j':=mB c2 (by have:=(Ac.1 q1).1;omega) (fh.trans q2);rw[hx] at q1;cases q1;have hf:bK (1000+i)=true:=by rw[← fh,zkJ c2];exact c1
       cases hb:ι i with
       | none=>exact ⟨z,aZ,0,0,hx,by simp only[eU,if_pos hf,q3,q4,hb],by simp⟩
       | some b =>
        cases hw:w.heap[b]? with
        | none=>exact ⟨z,aZ,0,0,hx,by simp only[eU,if_pos hf,q3,q4,hb,hw],fun b' cs bW fz e1 e2=>by cases e1;rw[hw] at e2;cases e2⟩
        | some ob =>
         cases ob with
         | cells cs el fz=>exact ⟨z,aZ,el,cs.size,hx,by simp only[eU,if_pos hf,q3,q4,hb,hw],fun b' aK bW fz' e1 e2=>by cases e1;rw[hw] at e2;cases e2;exact ⟨rfl,rfl⟩⟩
         | _=>exact ⟨z,aZ,0,0,hx,by simp only[eU,if_pos hf,q3,q4,hb,hw],fun b' aK bW fz' e1 e2=>by cases e1;rw[hw] at e2;cases e2⟩
     | _=>rw[pM] at ho;simp[zI] at ho
    have hE:∀ s b,σ s=some b->bK s=false->w.heap.size<=b∨yM ι bE b:=by
     intro s b hs hf;rcases (h.dom s b hs).2.2.2 with q | ⟨i,hi⟩
     ·exact .inl q
     ·refine .inr ⟨i,hi,fun es gj => ?_⟩;obtain ⟨z,aZ,el,m,q1,q2,_⟩:=kept i es gj (hι.1 i b hi).1;obtain ⟨p1,p2,_⟩:=h.kp _ _ q2;have:=h.inj s (1000+i) b hs (p2.trans hi);rw[this,p1] at hf;cases hf
    have hA:∀ b,A0 b->((A b∨yM ι bE b)∨w.heap.size<=b)∧b < w'.heap.size:=by
     intro b hb;refine ⟨?_,h.Alt b hb⟩;rcases h.Asub b hb with q | q | ⟨i,hi⟩
     ·exact .inl (.inl q)
     ·exact .inr q
     ·refine .inl (.inr ⟨i,hi,fun es gj => ?_⟩);obtain ⟨z,aZ,el,m,q1,q2,_⟩:=kept i es gj (hι.1 i b hi).1;obtain ⟨p1,p2,_⟩:=h.kp _ _ q2;exact (h.dom _ b (p2.trans hi)).2.2.1 hb
    let β:Nat->Option Nat:=fun i=>match rs[i]? with | some (.lsl s z 0 n)=>(match st.hp s with | some (.arr z' es)=>if z=z'∧n=es.length∧bK s=false then σ s else none | _=>none) | _=>none
    have hβ:∀ i b,β i=some b->∃ s x,rs[i]? = some x∧s∈x.refs∧σ s=some b∧bK s=false:=by
     intro i b hb;simp only[β] at hb;split at hb
     ·rename_i s z n hi;split at hb
      ·split at hb
       ·rename_i hc;exact ⟨s,_,hi,by simp[AV.refs],hb,hc.2.2⟩
       ·cases hb
      ·cases hb
     ·cases hb
    have eR:∀ b,A0 b->jE (fun b=>A b∨yM ι bE b) β w w' b:=fun b hb=>⟨(hA b hb).1,(hA b hb).2,fun i e=>by
     obtain ⟨s,x,_,_,hs,_⟩:=hβ i b e;exact (h.dom s b hs).2.2.1 hb⟩
    have parts:∀ (i:Nat) (y:AV),ys[i]? = some y->bm S (jE (fun b=>A b∨yM ι bE b) β w w') w' (β i) y (us.getD i undef):=by
     intro i y hy;obtain ⟨x0,aC,aF⟩:=d2 i y hy;have hg:=k3 i x0 aC;by_cases hl:∃ s z n,x0=.lsl s z 0 n
     ·obtain ⟨s,z,n,rfl⟩:=hl;simp only[zab] at aF;split at aF
      ·rename_i z' es hb;split at aF
       ·rename_i az;cases aF;obtain ⟨rfl,rfl,cm⟩:=az;have hβi:β i=σ s:=by simp[β,aC,hb,cm]
        rw[hβi];exact qY.mono eR (zhp h hg.rel hb)
       ·cases aF
      ·cases aF
     ·have:(if x0.refs.isEmpty then some x0 else none)=some y:=by
       cases x0 with
       | lsl s z off n =>
        cases off with
        | zero=>exact absurd ⟨_,_,_,rfl⟩ hl
        | succ off=>exact aF
       | _=>exact aF
      split at this
      ·rename_i hr;have e:=Option.some.inj this;subst e;have hb:β i=none:=by
        clear aF this;cases x0 with
        | lsl s z off n=>simp[AV.refs] at hr
        | _=>simp[β,aC]
       rw[hb];exact jQ ((hg.rel.to0 (by simpa using hr)).mono eR fun _ _=>rfl)
      ·cases this
    refine ⟨_,k1, ?_⟩;have hβ1:∀ i b,β i=some b->(w.heap.size<=b∨yM ι bE b)∧b < w'.heap.size:=fun i b hb=>(by obtain ⟨s,x,_,_,hs,hf⟩:=hβ i b hb;exact ⟨hE s b hs hf,(h.dom s b hs).2.1⟩);have hβ2:∀ i j b,β i=some b->β j=some b->i=j:=fun i j b hi hj=>(by obtain ⟨s,x,q1,q2,q3,_⟩:=hβ i b hi;obtain ⟨s',x',mV,mU,mT,_⟩:=hβ j b hj;obtain rfl:=h.inj s s' b q3 mT;exact zjS rs i j x x' s hnd q1 mV q2 mU);have hT:zdf S args ι vs w w' bE (jE (fun b=>A b∨yM ι bE b) β w w'):=by
     intro i es z aZ hi hx;obtain ⟨z',es0',el,m,q1,q2,q3⟩:=kept i es hi (Ac.1 hx).1;rw[hx] at q1;cases q1;obtain ⟨p1,p2,⟨eT,p3,p4⟩,p5⟩:=h.kp _ _ q2;simp only at p2 p3 p4 p5;obtain ⟨_,_,z2,c3⟩:=zfn gJ hi;rw[p3] at c3;cases c3;have ho:qY S A w (ι i) z aZ (vs.getD i undef):=ha i _ hx;obtain ⟨b0,bb⟩:=h.hp _ _ p3;refine ⟨p4,⟨b0, ?_⟩,fun b cs bW hb hc => ?_⟩
     ·obtain ⟨_,⟨o1,o2,o3⟩ | ⟨b,cap,us',bW,o1,o2,o3,o4,o5,o6,_⟩⟩:=ho
      ·subst o2;exact .inl ⟨o1,Az.1 (by simpa using p4),o3⟩
      ·obtain ⟨cs,p6,p7⟩:=p5 b o1;rcases bb with ⟨m1,_⟩ | ⟨b',us2,el2,m1,m2,m3,m4,m5⟩
       ·rw[p2,o1] at m1;cases m1
       ·rw[p2,o1] at m1;cases m1;rw[p6] at m2;cases m2;have aM:=(q3 b us' bW (0,0) o1 o5).2;exact .inr ⟨b,cap,cs,el,o1,by rw[o2,p4],by omega,o4,p6,by omega,m4,fun i' e' c x h1 h2=>(m5 i' e' c x h1 h2).mono eR fun _ _=>rfl⟩
     ·obtain ⟨aK,p6,p7⟩:=p5 b hb;obtain ⟨rfl,e2⟩:=q3 b cs bW (0,0) hb hc;exact ⟨aK,p6,by omega⟩
    by_cases nh:us.size=1
    ·rw[dif_pos nh];have e:us[0]=us.getD 0 undef:=by simp[Array.getD,nh]
     match ys,(show ys.length=us.size by omega),parts,d1 with
     | [x],_,parts,d1 =>
      have hx:=parts 0 x rfl;rw[← e] at hx;rw[show qN [x]=x from rfl];by_cases ht:∃ rs,x=.tup rs
      ·obtain ⟨rs',rfl⟩:=ht;have cO:=zaY hx rfl;have ca:β 0=none:=cO.1;have kJ:=cO.2.mono (A':=jE (fun b=>A b∨yM ι bE b) β w w') (fun b hb=>hb) (fun _ _=>rfl);have hβn:∀ i,β i=none:=by
        intro i;cases i with
        | zero=>exact ca
        | succ i =>
         have bp:rs[i+1]? = none:=by
          rw[List.getElem?_eq_none_iff];have:rs.length=1:=by simpa using d1
          omega
         simp only[β,bp]
       generalize us[0]=v at kJ;refine ⟨β,hβ1,hβ2,hT, ?_⟩;cases kJ with
       | tup q1 q2=>exact ⟨_,rfl,q1,fun i y hy=>by rw[hβn];exact jQ (q2 i y hy)⟩
      ·refine ⟨β,hβ1,hβ2,hT, ?_⟩;cases x with
       | tup rs=>exact absurd ⟨rs,rfl⟩ ht
       | _=>exact hx
     | [],hl,_,_=>simp at hl;omega
     | _ :: _ :: _,hl,_,_=>simp at hl;omega
    ·rw[dif_neg nh];have e:qN ys=.tup ys:=by
      match ys,(show ys.length=us.size by omega) with
      | [],_=>rfl
      | [x],hl=>simp at hl;omega
      | _ :: _ :: _,_=>rfl
     rw[e];exact ⟨β,hβ1,hβ2,hT,us,rfl,by omega,parts⟩
   ·cases he
  ·cases he
 ·cases he
def ziS (hS:qO S) {g id:Nat} {fn:Func} {f:AFunc} (hg:S.P.funcs[g]? = some fn) (hc:zgs S id fn=some f) (cR:zbX id S.muts≠[]) (cP:S.own.contains id=false) (hD:qv f.body=true∨yN S) {args:List AV} {r:AV} {outs:zdg}
  (hb:BodyR (zh S) f args r outs):zaI S g args r outs:=by
 unfold zgs at hc;split at hc
 ·rename_i body res cq aT;split at hc
  ·rename_i az;have gL:=az.1;have hnp:=az.2.resolve_left cR;cases hc;obtain ⟨hlen,bQ,e,aa,hex,dZ,aE⟩:=hb;simp only at hlen bQ hex aE hD;rw[cP] at aE;obtain ⟨c,gm,lx⟩:∃ c,fn.body=some c∧yR S fn.ntmps c=some body:=by
    cases gm:fn.body with
    | none=>simp[gm] at cq
    | some c=>simp[gm] at cq;exact ⟨c,rfl,cq⟩
   intro A w vs ι hl hA hι hJ ha;have main:c.wp S.P (fun ex a w'=>(ex=.normal∨ex=.ret)∧a.defers=[]∧∃ A' σ',zbq S A (eU (zbX id S.muts) args ι w) w A' σ' w' aa a.tmps) { tmps:=vs++Array.replicate (fn.ntmps - vs.size) undef,defers:=[] } w:=by
    refine wp_mono (Stm.wp (zfC hS hex hD lx ⟨w,.refl S w,hJ,enterM_ok hl (by omega) hA hι ha _⟩ (by simp;omega))) ?_;rintro ex a w' ⟨q1,q2,q3,q4⟩;refine ⟨?_,q2,q4⟩;subst q1;rcases dZ with rfl | rfl
    ·exact .inl rfl
    ·exact .inr rfl
   refine calls_of_wp hg gm (wp_mono main ?_);rintro ex a w' ⟨q1,q2,A',σ',w2,r2,j2,q3⟩;have nP:∀ i b,ι i=some b->w2.heap[b]? = w.heap[b]?:=fun i b hb=>r2.block b fun e=>hJ.no b e ⟨i,hb⟩;have cL:=r2.keep q3.keep;have hj:=(q3.jpreA j2).jn;rw[← zkZ (muts:=zbX id S.muts) (args:=args) nP] at q3;obtain ⟨v,k1,k2⟩:=zk5 hl (by omega) bQ ⟨fun i b hb=>by rw[r2.size];exact hι.1 i b hb,hι.2⟩ (fun i x hx=>(ha i x hx).same (fun b hb=>r2.block b fun e=>hJ.na b e hb) (nP i)) q3 aT cR aE;have k2:=k2.same r2.size.symm fun i b hb=>(nP i b hb).symm;rcases q1 with rfl | rfl
   ·exact ⟨q2,v,k1,v,rfl,cL,hj,k2⟩
   ·exact ⟨q2,v,k1,v,rfl,cL,hj,k2⟩
  ·cases hc
 ·cases hc
def zk1 (hS:qO S) {g id:Nat} {fn:Func} {f:AFunc} (hg:S.P.funcs[g]? = some fn) (hc:zgs S id fn=some f) (hD:qv f.body=true∨yN S) {args:List AV} {r:AV} {outs:zdg}
  (hb:BodyR (zh S) f args r outs):zaI S g args r outs:=by
 by_cases cR:zbX id S.muts=[]
 ·obtain ⟨rfl,h⟩:=ziT hS hg hc cR hD hb;refine zhj h (zbp 0 args ?_);have h2:=hb.2.1;unfold zgs at hc;split at hc
  ·split at hc
   ·cases hc;simp only[cR] at h2;exact h2
   ·cases hc
  ·cases hc
 ·refine ziS hS hg hc cR ?_ hD hb;obtain ⟨_,_,e,aa,_,_,aE⟩:=hb;unfold zgs at hc;split at hc
  ·split at hc
   ·cases hc;simp only at aE;cases ho:S.own.contains id with
    | false=>rfl
    | true =>
     rw[ho] at aE;unfold jd at aE;split at aE
     ·simp only[if_true] at aE;split at aE
      ·rename_i hq;exact absurd hq.2 cR
      ·cases aE
     ·cases aE
   ·cases hc
  ·cases hc
def ok_of (hS:qO S) {G:Nat->Option AFunc} (hG:∀ g id,qL g S.fns=some id->∀ f,G id=some f->∃ fn,S.P.funcs[g]? = some fn∧zgs S id fn=some f) (hD:∀ id f,G id=some f->qv f.body=true∨yN S):Ok G (zh S):=by intro id f args r outs hf hb g hg;obtain ⟨fn,h1,h2⟩:=hG g id hg f hf;exact zk1 hS h1 h2 (hD id f hf) hb
end
end
section
def Ext (h h2:Nat->Option Blk):Prop:=∀ s b,h s=some b->h2 s=some b
def zh8 {st al:ASt} {n:Nat} {lo hi:Option AOpd} (h:∀ x∈lo.toList++hi.toList,st.ev x=al.ev x):bounds st n lo hi=bounds al n lo hi:=by cases lo<;>cases hi<;>simp_all[bounds]
def yV {α β:Type} {f g:α->Option β}:∀ {l:List α},(∀ x∈l,f x=g x)->zj f l=zj g l
 | [],_=>rfl
 | x :: r,h=>by
  simp only[zj];rw[h x Al,yV fun y hy=>h y (Af _ hy)]
def zi8 {h h2:Nat->Option Blk} (he:Ext h h2) {x:AV} {p:List AV×Nat} (hc:cellsAt h x=some p):cellsAt h2 x=some p:=by
 cases x with
 | pv s off =>
  simp only[cellsAt] at hc ⊢;split at hc
  ·rename_i hb;rw[he _ _ hb];exact hc
  ·cases hc
 | pe s z i off =>
  simp only[cellsAt] at hc ⊢;split at hc
  ·rename_i hb;rw[he _ _ hb];exact hc
  ·cases hc
 | ep cs off=>exact hc
 | _=>cases hc
def zdN {h h2:Nat->Option Blk} (he:Ext h h2) {x y:AV} (hc:qB h x=some y):qB h2 x=some y:=by
 cases x with
 | pe s z i off =>
  simp only[qB] at hc ⊢;split at hc
  ·rename_i hb;rw[he _ _ hb];exact hc
  ·cases hc
 | lsl s z off len =>
  simp only[qB] at hc ⊢;split at hc
  ·rename_i hb;rw[he _ _ hb];exact hc
  ·cases hc
 | _=>exact hc
def yn {α β:Type} {f g:α->Option β} (h:∀ x y,f x=some y->g x=some y):∀ {l:List α} {ys:List β},zj f l=some ys->zj g l=some ys
 | [],_,hl=>hl
 | x :: r,ys,hl=>by
  simp only[zj] at hl ⊢;split at hl
  ·rename_i y bN h1 h2;rw[h x y h1,yn h h2];exact hl
  ·cases hl
def zby {h h2:Nat->Option Blk} (he:Ext h h2) {x y:AV} (hc:qE h x=some y):qE h2 x=some y:=by
 cases x with
 | pv s off =>
  simp only[qE] at hc ⊢;split at hc
  ·rename_i hb;rw[he _ _ hb];split at hc
   ·rename_i aq;have:=yn (g:=qB h2) (fun _ _=>zdN he) aq;simp only[this];exact hc
   ·cases hc
  ·cases hc
 | agg cs =>
  simp only[qE] at hc ⊢;split at hc
  ·rename_i aq;rw[yn (g:=qB h2) (fun _ _=>zdN he) aq];exact hc
  ·cases hc
 | _=>simp only[qE] at hc ⊢;exact zdN he hc
def snap_ext {h h2:Nat->Option Blk} (he:Ext h h2) {x y:AV} (hc:zai h x=some y):zai h2 x=some y:=by
 cases x with
 | fn f cs =>
  simp only[zai] at hc ⊢;split at hc
  ·rename_i aq;rw[yn (g:=qE h2) (fun _ _=>zby he) aq];exact hc
  ·cases hc
 | tup cs =>
  simp only[zai] at hc ⊢;split at hc
  ·rename_i aq;rw[yn (g:=qE h2) (fun _ _=>zby he) aq];exact hc
  ·cases hc
 | agg cs =>
  simp only[zai] at hc ⊢;split at hc
  ·rename_i aq;rw[yn (g:=qE h2) (fun _ _=>zby he) aq];exact hc
  ·cases hc
 | _=>simp only[zai] at hc ⊢;exact zby he hc
def zcS {h h2:Nat->Option Blk} (he:Ext h h2):∀ (i:Nat) (l ys:List AV),zV h [] i l=some ys->zV h2 [] i l=some ys
 | _,[],_,hl=>hl
 | i,x :: r,ys,hl=>by
  simp only[zV,handed,Co,Db,CY,Ap,if_false,BE,if_true] at hl ⊢;split at hl
  ·rename_i y bN h1 h2;rw[snap_ext he h1,zcS he (i+1) r bN h2];exact hl
  ·cases hl
def zig.ext {M:Rets} {f:Nat} {args:List AV} {st al:ASt} {v:AV} (h:zig M f args st v) (he:Ext st.hp al.hp):zig M f args al v:=by obtain ⟨a,h1,h2⟩:=h;exact ⟨a,zcS he _ _ _ h1,h2⟩
def zic {o:AOp} {d:Nat} {st al aj:ASt} {v:AV} (hk:o.kind<=1) (hv:∀ x∈o.opds,st.ev x=al.ev x) (he:o.kind=0∨Ext st.hp al.hp) (h:aop o d st=some (v,aj)) :
  aj=st∧aop o d al=some (v,al):=by
 cases o with
 | load n x =>
  have gP:=he.resolve_left (by simp[AOp.kind]);have e:=hv x (by simp[AOp.opds]);simp only[aop] at h ⊢;rw[← e];split at h
  ·rename_i hc;rw[zi8 gP hc];split at h
   ·rename_i hy;simp only[hy];cases h;exact ⟨rfl,rfl⟩
   ·cases h
  ·cases h
 | build zero ps =>
  have e:∀ p∈ps,st.ev p.2.2=al.ev p.2.2:=fun p hp=>hv _ (by simp only[AOp.opds,Aj];exact ⟨p,hp,rfl⟩);simp only[aop] at h ⊢;split at h
  ·rename_i ps' fj;split at h
   ·rename_i cs aq;cases h;have fi:=(yV (f:=fun (p:Nat×Nat×AOpd)=>match (al.ev p.2.2).cells with | some cs=>if cs.length=p.2.1 then some (p.1,cs) else none | none=>none) (fun p hp=>by simp only[← e p hp];rfl)).trans fj;refine ⟨rfl, ?_⟩
    erw [fi]
    simp only[aq]
   ·cases h
  ·cases h
 | lit z zero len ps =>
  have e:∀ p∈ps,st.ev p.2=al.ev p.2:=fun p hp=>hv _ (by simp only[AOp.opds,Aj];exact ⟨p,hp,rfl⟩);simp only[aop] at h ⊢;split at h
  ·rename_i ps' fj;cases h;have fi:=(yV (f:=fun (p:Nat×AOpd)=>match (al.ev p.2).cells with | some cs=>(match zj (qB fun _=>none) cs with | some cs=>if cs.length=z then some (p.1,cs) else none | none=>none) | none=>none) (fun p hp=>by simp only[← e p hp];rfl)).trans fj
   refine ⟨rfl, ?_⟩
   erw [fi]
  ·cases h
 | mkfn f xs =>have e:xs.map st.ev=xs.map al.ev:=Ak hv;simp only[aop] at h ⊢;rw[← e];cases h;exact ⟨rfl,rfl⟩
 | slc z x lo hi =>
  have e:=hv x (by simp[AOp.opds]);have eb:∀ n,bounds st n lo hi=bounds al n lo hi:=fun n=>zh8 fun y hy=>hv y (by simp only[AOp.opds];exact Af _ hy);simp only[aop] at h ⊢;rw[← e];simp only[← eb]
  repeat' split at h
  all_goals (first | (cases h;done) | skip)
  all_goals simp_all
 | alloc=>simp[AOp.kind] at hk
 | bslice b=>cases b<;>simp[AOp.kind] at hk
 | store=>simp[AOp.kind] at hk
 | box=>simp[AOp.kind] at hk
 | mksl=>simp[AOp.kind] at hk
 | app=>simp[AOp.kind] at hk
 | call=>simp[aop] at h
 | calld=>simp[aop] at h
 | mov x=>have e:=hv x (by simp[AOp.opds]);simp only[aop] at h ⊢;rw[← e];cases h;exact ⟨rfl,rfl⟩
 | ifc t x=>have e:=hv x (by simp[AOp.opds]);simp only[aop] at h ⊢;rw[← e];cases h;exact ⟨rfl,rfl⟩
 | chk x=>have e:=hv x (by simp[AOp.opds]);simp only[aop] at h ⊢;rw[← e];repeat' split at h;all_goals (first | (cases h;done) | simp_all)
 | eqn sl neg x=>have e:=hv x (by simp[AOp.opds]);simp only[aop] at h ⊢;rw[← e];repeat' split at h;all_goals (first | (cases h;done) | simp_all)
 | un op x=>have e:=hv x (by simp[AOp.opds]);simp only[aop] at h ⊢;rw[← e];repeat' split at h;all_goals (first | (cases h;done) | simp_all)
 | cvi k x=>have e:=hv x (by simp[AOp.opds]);simp only[aop] at h ⊢;rw[← e];repeat' split at h;all_goals (first | (cases h;done) | simp_all)
 | cvs x=>have e:=hv x (by simp[AOp.opds]);simp only[aop] at h ⊢;rw[← e];repeat' split at h;all_goals (first | (cases h;done) | simp_all)
 | fa off x=>have e:=hv x (by simp[AOp.opds]);simp only[aop] at h ⊢;rw[← e];repeat' split at h;all_goals (first | (cases h;done) | simp_all)
 | fld off n x=>have e:=hv x (by simp[AOp.opds]);simp only[aop] at h ⊢;rw[← e];repeat' split at h;all_goals (first | (cases h;done) | simp_all)
 | ext x i=>have e:=hv x (by simp[AOp.opds]);simp only[aop] at h ⊢;rw[← e];repeat' split at h;all_goals (first | (cases h;done) | simp_all)
 | len s x=>have e:=hv x (by simp[AOp.opds]);simp only[aop] at h ⊢;rw[← e];repeat' split at h;all_goals (first | (cases h;done) | simp_all)
 | bin k op x y=>have e:=hv x (by simp[AOp.opds]);have e2:=hv y (by simp[AOp.opds]);simp only[aop] at h ⊢;rw[← e,← e2];repeat' split at h;all_goals (first | (cases h;done) | simp_all)
 | eqa neg sh x y=>have e:=hv x (by simp[AOp.opds]);have e2:=hv y (by simp[AOp.opds]);simp only[aop] at h ⊢;rw[← e,← e2];repeat' split at h;all_goals (first | (cases h;done) | simp_all)
 | ia z x y=>have e:=hv x (by simp[AOp.opds]);have e2:=hv y (by simp[AOp.opds]);simp only[aop] at h ⊢;rw[← e,← e2];repeat' split at h;all_goals (first | (cases h;done) | simp_all)
 | ix x y=>have e:=hv x (by simp[AOp.opds]);have e2:=hv y (by simp[AOp.opds]);simp only[aop] at h ⊢;rw[← e,← e2];repeat' split at h;all_goals (first | (cases h;done) | simp_all)
 | max2 x y=>have e:=hv x (by simp[AOp.opds]);have e2:=hv y (by simp[AOp.opds]);simp only[aop] at h ⊢;rw[← e,← e2];repeat' split at h;all_goals (first | (cases h;done) | simp_all)
 | pick c x y=>have e0:=hv c (by simp[AOp.opds]);have e:=hv x (by simp[AOp.opds]);have e2:=hv y (by simp[AOp.opds]);simp only[aop] at h ⊢;rw[← e0,← e,← e2];repeat' split at h;all_goals (first | (cases h;done) | simp_all)
def zla {o:AOp} {d:Nat} {st aj:ASt} {v:AV} (hk:o.kind=2∨o.kind=3) (h:aop o d st=some (v,aj)) :
  ∃ s blk,aj=st.setH s (some blk)∧(o.kind=2->st.hp s=none)∧∀ al:ASt,al.hp=st.hp->(∀ x∈o.opds,st.ev x=al.ev x)->aop o d al=some (v,al.setH s (some blk)):=by
 cases o with
 | alloc zero =>
  simp only[aop] at h;split at h
  ·rename_i hd;cases h;exact ⟨d,_,rfl,fun _=>hd,fun al h2 _=>by simp only[aop,h2,hd]⟩
  ·cases h
 | bslice b z zero len ps =>
  cases b with
  | true=>simp[AOp.kind] at hk
  | false =>
   simp only[aop] at h;split at h
   ·rename_i ps' hd fj;split at h
    ·rename_i hr;have cK:ju st ps=[]:=by simpa using hr
     rw[cK] at h;simp only[ASt.freezeL] at h;cases h;refine ⟨d,_,rfl,fun _=>hd,fun al h2 hv => ?_⟩;have e:∀ p∈ps,st.ev p.2=al.ev p.2:=fun p hp=>hv _ (by simp only[AOp.opds,Aj];exact ⟨p,hp,rfl⟩);have ir:ju al ps=[]:=(by rw[← cK];unfold ju;congr 1;exact Ak fun p hp=>(e p hp).symm);have fi:=(yV (f:=fun (p:Nat×AOpd)=>match (al.ev p.2).cells with | some cs=>(match zj (qB st.hp) cs with | some cs=>if cs.length=z then some (p.1,cs) else none | none=>none) | none=>none) (fun p hp=>by simp only[← e p hp];rfl)).trans fj
     simp only[aop,h2,hd,ir,or_true,if_true,ASt.freezeL]
     erw [fi]
    ·cases h
   ·cases h
 | store z a x =>
  simp only[aop] at h
  repeat' split at h
  all_goals (first | (cases h;done) | skip)
  all_goals cases h
  all_goals
   refine ⟨_,_,rfl,by simp[AOp.kind],fun al h2 hv => ?_⟩;have e1:=hv a (by simp[AOp.opds]);have e2:=hv x (by simp[AOp.opds]);simp only[aop,h2,← e1,← e2];simp_all
 | load=>simp[AOp.kind] at hk
 | box=>simp[AOp.kind] at hk
 | mksl z zero l c =>
  simp only[aop] at h;split at h
  ·rename_i n c' hd hl hc;split at h
   ·rename_i az;cases h;refine ⟨d,_,rfl,fun _=>hd,fun al h2 hv => ?_⟩;have e1:=hv l (by simp[AOp.opds]);have e2:=hv c (by simp[AOp.opds]);simp only[aop,h2,← e1,← e2,hd,hl,hc];rw[if_pos az]
   ·cases h
  ·cases h
 | app=>simp[AOp.kind] at hk
 | call frz muts f args=>simp[aop] at h
 | calld=>simp[AOp.kind] at hk
 | _=>simp[AOp.kind] at hk
def ev_putO {st:ASt} {d:Option Nat} {v:AV} {x:AOpd} (h:∀ n,x=.t n->d≠some n):(st.putO d v).ev x=st.ev x:=by
 cases d with
 | none=>rfl
 | some d =>
  cases x with
  | t n =>have hn:n≠d:=fun e=>h n rfl (by rw[e]);simp only[ASt.putO,ASt.put,ASt.ev,upd,if_neg hn]
  | _=>rfl
def ev_setH {st:ASt} {s:Nat} {b:Option Blk} {x:AOpd}:(st.setH s b).ev x=st.ev x:=by cases x<;>rfl
def zbj {st:ASt} {d:Option Nat} {v:AV}:(st.putO d v).hp=st.hp:=by cases d<;>rfl
def zbB {st:ASt} {d e:Option Nat} {v x:AV} (h:∀ n,d=some n->e≠some n):(st.putO d v).putO e x=(st.putO e x).putO d v:=by
 cases d with
 | none=>rfl
 | some d =>
  cases e with
  | none=>rfl
  | some e =>
   have hn:d≠e:=fun e'=>h d rfl (by rw[e']);simp only[ASt.putO,ASt.put];congr 1;funext k;simp only[upd];by_cases h1:k=e
   ·rw[if_pos h1,if_neg (fun e'=>hn (e'.symm.trans h1)),if_pos h1]
   ·rw[if_neg h1];by_cases h2:k=d
    ·rw[if_pos h2,if_pos h2]
    ·rw[if_neg h2,if_neg h2,if_neg h1]
def setH_putO {st:ASt} {d:Option Nat} {v:AV} {s:Nat} {b:Option Blk}:(st.putO d v).setH s b=(st.setH s b).putO d v:=by cases d<;>rfl
def gval_putO {st:ASt} {d:Option Nat} {v:AV} {g:Option (Nat×Bool)} (h:∀ t w,g=some (t,w)->d≠some t):bS (st.putO d v) g=bS st g:=by
 cases g with
 | none=>rfl
 | some p =>
  obtain ⟨t,w⟩:=p;have:(st.putO d v).fr t=st.fr t:=by
   cases d with
   | none=>rfl
   | some d =>have hn:t≠d:=fun e=>h t w rfl (by rw[e]);simp only[ASt.putO,ASt.put,upd,if_neg hn]
  simp only[bS,this]
def gval_setH {st:ASt} {s:Nat} {b:Option Blk} {g:Option (Nat×Bool)}:bS (st.setH s b) g=bS st g:=by
 cases g with
 | none=>rfl
 | some p=>rfl
def gval_hp {fr:Nat->AV} {hp hp2:Nat->Option Blk} {g:Option (Nat×Bool)}:bS ⟨fr,hp⟩ g=bS ⟨fr,hp2⟩ g:=by
 cases g with
 | none=>rfl
 | some p=>rfl
def zhQ {d:Option Nat} {l:List Nat} (h:zfc d l=false):∀ n,n∈l->d≠some n:=by intro n hn e;subst e;simp only[zfc,A8,decide_eq_false_iff_not] at h;exact h hn
def iY {o:AOper} {st:ASt} {d:Option Nat} {v:AV} (h:zfc d o.seen=false):∀ x∈o.op.opds,(st.putO d v).ev x=st.ev x:=by intro x hx;refine ev_putO fun n e=>zhQ h n ?_;subst e;simp only[AOper.seen,Ah,List.mem_filterMap];exact .inl ⟨_,hx,rfl⟩
def wB {o:AOper} {st:ASt} {d:Option Nat} {v:AV} (h:zfc d o.seen=false):bS (st.putO d v) o.grd=bS st o.grd:=by refine gval_putO fun t w e=>zhQ h t ?_;simp only[AOper.seen,Ah,e];exact .inr (Ai.2 rfl)
def mC {M:Rets} {o:AOp} {d:Nat} {st aj:ASt} {v:AV} (hk:o.kind<=1) (h:jA M true o d st v aj) :
  aj=st∧∀ al:ASt,(∀ x∈o.opds,st.ev x=al.ev x)->(o.kind=0∨Ext st.hp al.hp)->jA M true o d al v al:=by
 cases o with
 | call frz muts f args =>
  obtain rfl:muts=[]:=by
   match muts,hk with
   | [],_=>rfl
   | [k],hk=>simp only[AOp.kind] at hk;split at hk<;>omega
   | _ :: _ :: _,hk=>simp[AOp.kind] at hk
  simp only[jA,and_self,if_true] at h ⊢;obtain ⟨rfl,hc⟩:=h;refine ⟨rfl,fun al hv he=>⟨trivial, ?_⟩⟩;have e:args.map aj.ev=args.map al.ev:=Ak hv;rw[← e];exact hc.ext (he.resolve_left (by simp[AOp.kind]))
 | calld frz x args =>
  simp only[jA,if_true] at h;split at h
  ·rename_i f caps hx;obtain ⟨rfl,hc⟩:=h;refine ⟨rfl,fun al hv he => ?_⟩;have ex:=hv x (by simp[AOp.opds]);simp only[jA,if_true,← ex,hx];rw[← Ak (f:=aj.ev) (g:=al.ev) fun y hy=>hv y (by simp[AOp.opds,hy])];exact ⟨trivial,hc.ext (he.resolve_left (by simp[AOp.kind]))⟩
  ·exact h.elim
 | _ =>have h':aop _ d st=some (v,aj):=h;refine ⟨(zic hk (fun _ _=>rfl) (.inr fun _ _ h=>h) h').1,fun al hv he => ?_⟩;exact (zic hk hv he h').2
def ziQ (i:Nat):handed [3000] i=false:=by
 simp only[handed,List.contains_cons,Co,Bool.or_false,Bool.and_eq_false_iff,Cb,beq_eq_false_iff_ne];by_cases h:i < 1000
 ·exact .inr ⟨by omega,by omega⟩
 ·refine .inl ?_;cases hb:Nat.blt i 1000 with
  | false=>rfl
  | true=>rw[B3] at hb;exact absurd hb h
def zhx:∀ (i:Nat) (l:List AV),qi [3000] i l=[]
 | _,[]=>rfl
 | i,x :: r=>by simp only[qi,ziQ,Ap,if_false,AE];exact zhx (i+1) r
def zhY:∀ (i:Nat) (l:List AV),zK [3000] i l=[]
 | _,[]=>rfl
 | i,x :: r=>by simp only[zK,ziQ,CX,Ap,if_false,AE];exact zhY (i+1) r
def mu {d:Nat}:∀ {i:Nat} {l ys:List AV} {st aj:ASt},bT d i l st=some (ys,aj)->aj.fr=st.fr∧Ext st.hp aj.hp∧∀ al:ASt,al.hp=st.hp->bT d i l al=some (ys,⟨al.fr,aj.hp⟩)
 | i,[],ys,st,aj,h=>by
  simp only[bT,Option.some.injEq,Prod.mk.injEq] at h;obtain ⟨rfl,rfl⟩:=h;exact ⟨rfl,fun _ _ h=>h,fun al h2=>by simp only[bT,← h2]⟩
 | i,x :: r,ys,st,aj,h=>by
  have other:(match bT d (i+1) r st with | some (ys,aa)=>some (x :: ys,aa) | none=>none)=some (ys,aj)->(∀ al:ASt,bT d i (x :: r) al=(match bT d (i+1) r al with | some (ys,aa)=>some (x :: ys,aa) | none=>none))->aj.fr=st.fr∧Ext st.hp aj.hp∧∀ al:ASt,al.hp=st.hp->bT d i (x :: r) al=some (ys,⟨al.fr,aj.hp⟩):=by
   intro h hx;split at h
   ·rename_i bN aa e;cases h;obtain ⟨k1,k2,k3⟩:=mu e;exact ⟨k1,k2,fun al h2=>by rw[hx,k3 al h2]⟩
   ·cases h
  cases x with
  | own z es =>
   simp only[bT] at h;split at h
   ·rename_i bN aa e1 e2;cases h;obtain ⟨k1,k2,k3⟩:=mu e2;refine ⟨k1,fun s b hb=>k2 s b ?_,fun al h2 => ?_⟩
    ·simp only[ASt.setH,upd];split
     ·rename_i e;subst e;rw[e1] at hb;cases hb
     ·exact hb
    ·have:=k3 (al.setH (d+10000 * (i+1)) (some (.arr z es))) (by simp only[ASt.setH,h2]);simp only[bT,h2,e1,this];rfl
   ·cases h
  | _=>exact other h fun _=>rfl
def imp_spec {d:Nat} {r v:AV} {st aj:ASt} (h:imp d r st=some (v,aj)):aj.fr=st.fr∧Ext st.hp aj.hp∧∀ al:ASt,al.hp=st.hp->imp d r al=some (v,⟨al.fr,aj.hp⟩):=by
 cases r with
 | own z es =>
  simp only[imp] at h;split at h
  ·rename_i e;cases h;refine ⟨rfl,fun s b hb => ?_,fun al h2=>by simp only[imp,h2,e,ASt.setH]⟩;simp only[ASt.setH,upd];split
   ·rename_i e';subst e';rw[e] at hb;cases hb
   ·exact hb
  ·cases h
 | tup vs =>
  simp only[imp] at h;split at h
  ·rename_i ys aa e;cases h;obtain ⟨k1,k2,k3⟩:=mu e;exact ⟨k1,k2,fun al h2=>by simp only[imp,k3 al h2]⟩
  ·cases h
 | _ =>simp only[imp,Option.some.injEq,Prod.mk.injEq] at h;obtain ⟨rfl,rfl⟩:=h;exact ⟨rfl,fun _ _ h=>h,fun al h2=>by simp only[imp,← h2]⟩
def callR3 {M:Rets} {frz:Bool} {f:Nat} {args:List AV} {d:Nat} {st aj:ASt} {v:AV}:zbs M frz [3000] f args d st v aj↔∃ an r,zV st.hp [3000] 0 args=some an∧M.ret f an r []∧imp d r st=some (v,aj):=by
 unfold zbs;rw[zhx,zhY];constructor
 ·rintro ⟨an,r,outs,s1,s2,h1,_,h3,h4,⟨_,h5,h6⟩,h7⟩;have ho:outs=[]:=List.map_eq_nil_iff.1 h5;subst ho;simp only[List.isEmpty_cons,Ap,if_false,settle,or_true,if_true,Option.some.injEq] at h4;subst h4;simp only[wQ,ASt.dropL,Option.some.injEq] at h6;subst h6;exact ⟨an,r,h1,h3,h7⟩
 ·rintro ⟨an,r,h1,h3,h7⟩;exact ⟨an,r,[],st,st,h1,rfl,h3,by simp[settle],⟨rfl,rfl,rfl⟩,h7⟩
def ziq {M:Rets} {o:AOp} {d:Nat} {st aj:ASt} {v:AV} (hk:o.kind=2∨o.kind=3) (h:jA M true o d st v aj) :
  ∃ cy,aj=⟨st.fr,cy⟩∧(o.kind=2->Ext st.hp cy)∧∀ al:ASt,al.hp=st.hp->(∀ x∈o.opds,st.ev x=al.ev x)->jA M true o d al v ⟨al.fr,cy⟩:=by
 have plain:(∃ s blk,aj=st.setH s (some blk)∧(o.kind=2->st.hp s=none)∧∀ al:ASt,al.hp=st.hp->(∀ x∈o.opds,st.ev x=al.ev x)->jA M true o d al v (al.setH s (some blk))) ->
   ∃ cy,aj=⟨st.fr,cy⟩∧(o.kind=2->Ext st.hp cy)∧∀ al:ASt,al.hp=st.hp->(∀ x∈o.opds,st.ev x=al.ev x)->jA M true o d al v ⟨al.fr,cy⟩:=by
  rintro ⟨s,blk,rfl,k1,k2⟩;refine ⟨_,rfl,fun hk s' b hb => ?_,fun al h2 hv => ?_⟩
  ·simp only[ASt.setH,upd];split
   ·rename_i e;subst e;rw[k1 hk] at hb;cases hb
   ·exact hb
  ·have:=k2 al h2 hv;simp only[ASt.setH,h2] at this;exact this
 cases o with
 | call frz muts f args =>
  obtain rfl:muts=[3000]:=by
   match muts,hk with
   | [],hk=>simp[AOp.kind] at hk
   | [k],hk =>
    simp only[AOp.kind] at hk;split at hk
    ·rename_i e;rw[Ca e]
    ·omega
   | _ :: _ :: _,hk=>simp[AOp.kind] at hk
  have hs:zbs M frz [3000] f (args.map st.ev) d st v aj:=(by simpa[jA] using h);obtain ⟨an,r,h1,h2,h3⟩:=callR3.1 hs;obtain ⟨k1,k2,k3⟩:=imp_spec h3;obtain ⟨fr1,lY⟩:=aj;simp only at k1 k2 k3;subst k1;refine ⟨lY,rfl,fun _=>k2,fun al e2 hv => ?_⟩;have e:args.map st.ev=args.map al.ev:=Ak hv;have:zbs M frz [3000] f (args.map al.ev) d al v ⟨al.fr,lY⟩:=callR3.2 ⟨an,r,by rw[← e,e2];exact h1,h2,k3 al e2⟩;simpa[jA] using this
 | calld=>simp[AOp.kind] at hk
 | _=>exact plain (zla hk h)
def ASt.setHo (st:ASt):Option (Nat×Blk)->ASt
 | none=>st
 | some (d,b)=>st.setH d (some b)
def mk_op {M:Rets} {k:AOper} {st s1:ASt} (hm:k.op.isMk=true) (h:OpR M true k st s1) :
  ∃ (f:Option (Nat×Blk)) (v:AV),s1=(st.setHo f).putO k.dst v∧(∀ d b,f=some (d,b)->st.hp d=none) ∧
   ∀ x:ASt,(∀ y∈k.op.opds,st.ev y=x.ev y)->bS x k.grd=bS st k.grd->(∀ d b,f=some (d,b)->x.hp d=none)->OpR M true k x ((x.setHo f).putO k.dst v):=by
 rcases h with ⟨g,v,aj,hs,rfl⟩ | ⟨g,rfl⟩
 ·cases eC:k.op with
  | mksl z zero l c =>
   rw[eC] at hs;have hs:aop (.mksl z zero l c) (k.dst.getD 0) st=some (v,aj):=hs;simp only[aop] at hs;split at hs
   ·rename_i n c' hd hl hc;split at hs
    ·rename_i az;cases hs;refine ⟨some (k.dst.getD 0,_),_,rfl,fun d b e=>by cases e;exact hd,fun x hv hg hx=>.inl ⟨hg.trans g,_,_, ?_,rfl⟩⟩;have e1:=hv l (by simp[AOp.opds]);have e2:=hv c (by simp[AOp.opds]);rw[eC];show aop (.mksl z zero l c) (k.dst.getD 0) x=_;simp only[aop,← e1,← e2,hx _ _ rfl,hl,hc];rw[if_pos az];rfl
    ·cases hs
   ·cases hs
  | _=>rw[eC] at hm;cases hm
 ·exact ⟨none,ud,rfl,(fun d b e=>by cases e),fun x hv hg hx=>.inr ⟨hg.trans g,rfl⟩⟩
def zfh {st:ASt} {d:Option Nat} {v:AV} {f:Option (Nat×Blk)}:(st.putO d v).setHo f=(st.setHo f).putO d v:=by
 cases f with
 | none=>rfl
 | some p=>exact setH_putO
def zkK {st:ASt} {f g:Option (Nat×Blk)} (h:∀ d b e c,f=some (d,b)->g=some (e,c)->d≠e):(st.setHo f).setHo g=(st.setHo g).setHo f:=by
 cases f with
 | none=>rfl
 | some p =>
  cases g with
  | none=>rfl
  | some q =>
   have ak:=h p.1 p.2 q.1 q.2 rfl rfl;simp only[ASt.setHo,ASt.setH,ASt.mk.injEq,true_and];funext k;simp only[upd];by_cases e1:k=q.1
   ·by_cases e2:k=p.1
    ·exact absurd (e2.symm.trans e1) ak
    ·rw[if_pos e1,if_neg e2,if_pos e1]
   ·by_cases e2:k=p.1
    ·rw[if_neg e1,if_pos e2,if_pos e2]
    ·rw[if_neg e1,if_neg e2,if_neg e2,if_neg e1]
def oX {st:ASt} {f:Option (Nat×Blk)} {x:AOpd}:(st.setHo f).ev x=st.ev x:=by
 cases f with
 | none=>rfl
 | some p=>exact ev_setH
def zfv {st:ASt} {f:Option (Nat×Blk)} {g:Option (Nat×Bool)}:bS (st.setHo f) g=bS st g:=by
 cases f with
 | none=>rfl
 | some p=>exact gval_setH
def swap_mk {M:Rets} {k i:AOper} {st s1 s2:ASt} (hk:k.op.isMk=true) (hi:i.op.isMk=true) (p1:zfc k.dst i.seen=false) (p2:zfc i.dst k.seen=false) (ak:∀ n,k.dst=some n->i.dst≠some n) (h1:OpR M true k st s1) (h2:OpR M true i s1 s2):∃ gB,OpR M true i st gB∧OpR M true k gB s2:=by
 obtain ⟨f,v,rfl,f1,f2⟩:=mk_op hk h1;obtain ⟨g,u,rfl,g1,g2⟩:=mk_op hi h2;have hd:∀ d b e c,f=some (d,b)->g=some (e,c)->d≠e:=(by intro d b e c hf hg hde;subst hde;have:=g1 d c hg;rw[hf,zbj] at this;simp[ASt.setHo,ASt.setH,upd] at this);refine ⟨(st.setHo g).putO i.dst u,g2 st (fun y hy=>by rw[iY p1 y hy,oX]) (by rw[wB p1,zfv]) (fun d b hg => ?_), ?_⟩
 ·have:=g1 d b hg;rw[zbj] at this;cases f with
  | none=>exact this
  | some p =>have ak:=hd p.1 p.2 d b rfl hg;simpa[ASt.setHo,ASt.setH,upd,Ne.symm ak] using this
 ·have:=f2 ((st.setHo g).putO i.dst u) (fun y hy=>by rw[iY p2 y hy,oX]) (by rw[wB p2,zfv]) (fun d b hf=>by
   rw[zbj];have h0:=f1 d b hf;cases g with
   | none=>exact h0
   | some p =>
    have ak:=hd d b p.1 p.2 hf rfl;simpa[ASt.setHo,ASt.setH,upd,ak] using h0)
  rw[zfh,zkK (fun d b e c h1 h2=>(hd e c d b h2 h1).symm),zbB (fun n e1 e2=>ak n e2 e1)] at this;rw[zfh];exact this
def swap {M:Rets} {k i:AOper} {st s1 s2:ASt} (hp:zdS k i=true) (h1:OpR M true k st s1) (h2:OpR M true i s1 s2):∃ gB,OpR M true i st gB∧OpR M true k gB s2:=by
 simp only[zdS,An,B0,beq_iff_eq,B3,AW] at hp;obtain ⟨⟨⟨hk,p1⟩,p2⟩,p3⟩:=hp;have ak:∀ n,k.dst=some n->i.dst≠some n:=(by intro n e1 e2;rw[e1,e2] at p3;simp[zfc] at p3);rcases hk with hk | ⟨ld,dv⟩
 case inr=>exact swap_mk ld dv p1 p2 ak h1 h2
 have q9:k.op.kind<=1:=by omega
 -- k at a state that differs from st as i makes it differ
 have kat:∀ (vk:AV) (x:ASt),(∀ y∈k.op.opds,st.ev y=x.ev y)->bS x k.grd=bS st k.grd->(k.op.kind=0∨Ext st.hp x.hp)->s1=st.putO k.dst vk->(∃ vk,s1=st.putO k.dst vk∧OpR M true k x (x.putO k.dst vk)):=by
  intro vk x hv hg he _;rcases h1 with ⟨g,v,aj,hs,e⟩ | ⟨g,e⟩
  ·obtain ⟨rfl,q⟩:=mC q9 hs;exact ⟨v,e,.inl ⟨hg.trans g,v,x,q x hv he,rfl⟩⟩
  ·exact ⟨ud,e,.inr ⟨hg.trans g,rfl⟩⟩
 obtain ⟨vk,ax⟩:∃ vk,s1=st.putO k.dst vk:=by
  rcases h1 with ⟨g,v,aj,hs,e⟩ | ⟨g,e⟩
  ·obtain ⟨rfl,q⟩:=mC q9 hs;exact ⟨v,e⟩
  ·exact ⟨ud,e⟩
 have putinj:∀ v v':AV,st.putO k.dst v=st.putO k.dst v'->∀ y:ASt,y.putO k.dst v=y.putO k.dst v':=by
  intro v v' e y;cases hd:k.dst with
  | none=>rfl
  | some d =>rw[hd] at e;have:=congrArg (fun z:ASt=>z.fr d) e;simp only[ASt.putO,ASt.put,upd,if_true] at this;rw[this]
 have lg:bS s1 i.grd=bS st i.grd:=by rw[ax];exact wB p1
 have l8:∀ x∈i.op.opds,s1.ev x=st.ev x:=by rw[ax];exact iY p1
 have dW:s1.hp=st.hp:=by rw[ax];exact zbj
 rcases h2 with ⟨g2,vi,sx,ez,rfl⟩ | ⟨g2,rfl⟩
 ·by_cases hi:i.op.kind<=1
  ·obtain ⟨rfl,q⟩:=mC hi ez;refine ⟨st.putO i.dst vi,.inl ⟨lg ▸ g2,vi,st,q st l8 (.inr (dW ▸ fun _ _ h=>h)),rfl⟩, ?_⟩;obtain ⟨mR,e',ay⟩:=kat vk (st.putO i.dst vi) (fun y hy=>(iY p2 y hy).symm) (wB p2) (.inr (by rw[zbj];exact fun _ _ h=>h)) ax;rw[e',zbB ak];exact ay
  ·obtain ⟨cy,rfl,hf,q⟩:=ziq (by omega) ez;refine ⟨(⟨st.fr,cy⟩:ASt).putO i.dst vi,.inl ⟨lg ▸ g2,vi,_,q st dW.symm l8,rfl⟩, ?_⟩;obtain ⟨mR,e',ay⟩:=kat vk ((⟨st.fr,cy⟩:ASt).putO i.dst vi) (fun y hy=>by rw[iY p2 y hy];cases y<;>rfl) (by rw[wB p2];exact gval_hp) (by
    by_cases h2:i.op.kind=2
    ·refine .inr ?_;rw[zbj];intro s' b hb;exact hf h2 s' b (by rw[dW];exact hb)
    ·exact .inl (by omega)) ax
   have e3:(⟨s1.fr,cy⟩:ASt)=(⟨st.fr,cy⟩:ASt).putO k.dst mR:=by rw[e'];cases k.dst<;>rfl
   rw[e3,zbB ak];exact ay
 ·refine ⟨st.putO i.dst ud,.inr ⟨lg ▸ g2,rfl⟩, ?_⟩;obtain ⟨mR,e',ay⟩:=kat vk (st.putO i.dst ud) (fun y hy=>(iY p2 y hy).symm) (wB p2) (.inr (by rw[zbj];exact fun _ _ h=>h)) ax;rw[e',zbB ak];exact ay
def front {M:Rets} {i:AOper} {R2:List AOper}:∀ (R1:List AOper) {st aa:ASt},(∀ k∈R1,zdS k i=true)->OpsR M true (R1++i :: R2) st aa->∃ s1,OpR M true i st s1∧OpsR M true (R1++R2) s1 aa
 | [],st,aa,_,h=>by
  cases h with
  | cv hq=>cases hq
  | cons h1 h2=>exact ⟨_,h1,h2⟩
 | k :: R1,st,aa,hp,h=>by
  cases h with
  | cv hq=>cases hq
  | cons h1 h2 =>obtain ⟨s1,q1,q2⟩:=front R1 (fun x hx=>hp x (Af _ hx)) h2;obtain ⟨gB,q3,q4⟩:=swap (hp k Al) h1 q1;exact ⟨gB,q3,.cons q4 q2⟩
def OpR.loud {M:Rets} {o:AOper} {st aa:ASt} (h:OpR M true o st aa):OpR M false o st aa:=by
 rcases h with ⟨g,v,aj,hs,e⟩ | h
 ·refine .inl ⟨g,v,aj, ?_,e⟩;generalize o.op=op at hs;cases op with
  | call frz muts f args =>
   simp only[jA,true_and] at hs;simp only[jA,Ap,false_and,if_false];split at hs
   ·rename_i hm;subst hm;obtain ⟨rfl,hc⟩:=hs;exact hc.loud
   ·exact hs
  | calld frz x args =>
   simp only[jA,if_true] at hs;simp only[jA,Ap,if_false];split at hs
   ·obtain ⟨rfl,hc⟩:=hs;exact hc.loud
   ·exact hs.elim
  | _=>exact hs
 ·exact .inr h
end
section
open Go Go.RowKit
def zfw (acc:List Nat) (k:Nat):∀ (l:List Nat) (s:Nat),(l.foldl (fun s j=>s ||| (2 ^ j ||| acc.getD j 0)) s).testBit k=true->s.testBit k=true∨∃ j∈l,k=j∨(acc.getD j 0).testBit k=true
 | [],s,h=>.inl h
 | j :: l,s,h=>by
  simp only[Bv] at h;rcases zfw acc k l _ h with h | ⟨j',h1,h2⟩
  ·simp only[Nat.testBit_or,B0] at h;rcases h with h | h | h
   ·exact .inl h
   ·refine .inr ⟨j,Al,.inl ?_⟩;rw[Nat.testBit_two_pow] at h;exact (of_decide_eq_true h).symm
   ·exact .inr ⟨j,Al,.inr h⟩
  ·exact .inr ⟨j',Af _ h1,h2⟩
def fP (acc:List Nat) (o:AOper):List Nat:=acc++[o.aft.foldl (fun s j=>s ||| (2 ^ j ||| acc.getD j 0)) 0]
def zky (l:List AOper) (b:List Nat) (n:Nat):Prop:=b.length=n∧∀ (i k:Nat) (o:AOper),i < n->l[i]? = some o->(b.getD i 0).testBit k=true->∃ j∈o.aft,k=j∨(j < i∧(b.getD j 0).testBit k=true)
def pq (l:List AOper):∀ (r p:List AOper) (acc:List Nat),l=p++r->(∀ (i j:Nat) (o:AOper),l[i]? = some o->j∈o.aft->j < i)->zky l acc p.length->zky l (r.foldl fP acc) l.length
 | [],p,acc,h,_,hc=>by
  simp only[Bg] at h;subst h;exact hc
 | o :: r,p,acc,h,ha,hc=>by
  have h':l=(p++[o])++r:=by rw[h];simp
  refine pq l r (p++[o]) _ h' ha ⟨by simp[fP,hc.1],fun i k o' hi ho hb => ?_⟩;have hlen:=hc.1;by_cases ae:i < p.length
  ·have e:(fP acc o).getD i 0=acc.getD i 0:=(by simp only[fP,Aw];rw[AJ (by omega)]);rw[e] at hb;obtain ⟨j,h1,h2⟩:=hc.2 i k o' ae ho hb;refine ⟨j,h1,h2.imp id fun ⟨h3,h4⟩=>⟨h3, ?_⟩⟩;have e2:(fP acc o).getD j 0=acc.getD j 0:=(by simp only[fP,Aw];rw[AJ (by omega)]);rw[e2];exact h4
  ·have aO:i=p.length:=by simp at hi;omega
   subst aO;have gK:o'=o:=(by rw[h] at ho;simp at ho;exact ho.symm);subst gK;have e:(fP acc o').getD p.length 0=o'.aft.foldl (fun s j=>s ||| (2 ^ j ||| acc.getD j 0)) 0:=(by simp only[fP,Aw];rw[AK (by omega)];simp[hlen]);rw[e] at hb;rcases zfw acc k _ _ hb with hb | ⟨j,h1,h2⟩
   ·simp at hb
   ·have hj:=ha p.length j o' (by rw[h];simp) h1;refine ⟨j,h1,h2.imp id fun h3=>⟨hj, ?_⟩⟩;have e2:(fP acc o').getD j 0=acc.getD j 0:=(by simp only[fP,Aw];rw[AJ (by omega)]);rw[e2];exact h3
def zho {f:Nat->Nat->Bool}:∀ {l:List Nat},zjP f l=true->l.Pairwise fun a b=>f a b=true
 | [],_=>.nil
 | a :: r,h=>by
  simp only[zjP,An,Ae] at h;exact .cons h.1 (zho h.2)
def zh0 {l:List AOper} (h:zgh l=true) :
  (∀ (i j:Nat) (o:AOper),l[i]? = some o->j∈o.aft->j < i)∧(∀ i,i∈gV l↔i < l.length) ∧
  (gV l).Pairwise fun k i=>k≠i∧∀ (p o:AOper),l[k]? = some p->l[i]? = some o->i ∉ p.aft∧(((zaD l).getD i 0).testBit k=true∨zdS p o=true):=by
 simp only[zgh,An] at h;obtain ⟨⟨⟨h1,h2⟩,h3⟩,h4⟩:=h;refine ⟨fun i j o ho hj => ?_,fun i=>⟨fun hi => ?_,fun hi => ?_⟩,(zho h4).imp fun {k i} hp => ?_⟩
 ·have ae:i < l.length:=(Ac.1 ho).1;have:=Ae.1 h1 i (Bj.2 ae);rw[ho] at this;simpa[B3] using Ae.1 this j hj
 ·simpa[B3] using Ae.1 h2 i hi
 ·have:=Ae.1 h3 i (Bj.2 hi);simpa[A8] using this
 ·simp only[oV,An,AW] at hp;refine ⟨fun e => ?_,fun p o hk hi => ?_⟩
  ·subst e;have:=hp.1;simp at this
  ·have:=hp.2;rw[hk,hi] at this;simp only[An,AW,B0,A8,decide_eq_false_iff_not] at this;exact this
def zgy {l:List AOper} (hc:zky l (zaD l) l.length) {L:Nat->Prop} (hL:∀ (i j:Nat) (o:AOper),L i->l[i]? = some o->j∈o.aft->L j) (hl:∀ (i j:Nat) (o:AOper),l[i]? = some o->j∈o.aft->j < i) :
  ∀ (n i k:Nat) (o:AOper),i < n->l[i]? = some o->(∀ j∈o.aft,L j)->((zaD l).getD i 0).testBit k=true->L k:=by
 intro n
 induction n with
 | zero=>intro i k o hi;omega
 | succ n ih =>
  intro i k o hi ho ha hb;obtain ⟨j,h1,h2⟩:=hc.2 i k o (Ac.1 ho).1 ho hb;rcases h2 with rfl | ⟨h3,h4⟩
  ·exact ha _ h1
  ·have hj:j < l.length:=Nat.lt_trans h3 (Ac.1 ho).1;exact ih j k l[j] (by omega) (Aa hj) (fun j' bB=>hL j j' l[j] (ha j h1) (Aa hj) bB) h4
def zdY:∀ (l r:List Nat),l.Nodup->(∀ x∈l,x∈r)->l.length<=r.length
 | [],r,_,_=>BG _
 | a :: l,r,hn,h=>by
  have ha:=h a Al;obtain ⟨h1,h2⟩:=List.nodup_cons.1 hn;have:=zdY l (r.erase a) h2 fun x hx=>(List.mem_erase_of_ne (show x≠a from fun e=>by subst e;exact h1 hx)).2 (h x (Af _ hx));rw[List.length_erase_of_mem ha] at this;have hr:0 < r.length:=List.length_pos_of_mem ha;simp only[Ax];omega
def nodup_le (n:Nat) (l:List Nat) (hn:l.Nodup) (h:∀ x∈l,x < n):l.length<=n:=by have:=zdY l (List.range n) hn fun x hx=>Bj.2 (h x hx);simpa using this
def pc {S:Seat} {nt:Nat} {ops:Array Oper} {o:Oper} {a:AOper} (h:zgr S nt ops true o=some a):a.aft=(o.after.toList.filter (Region.binds .any)).map (·.on):=by
 unfold zgr at h;split at h
 ·split at h
  ·cases h;rfl
  ·cases h
 ·cases h
def zkX {listed:Array Bool} {i j:Nat} (hi:i < listed.size):(listed.setIfInBounds i true).getD j true=if j=i then true else listed.getD j true:=by
 simp only[Aq,Array.getElem?_setIfInBounds];by_cases h:i=j
 ·subst h;simp[hi]
 ·rw[if_neg h,if_neg (fun e=>h e.symm)]
def mem_ready {ops:Array Oper} {listed:Array Bool} {i:Nat}:i∈Region.ready .any ops listed↔i < ops.size∧listed.getD i true=false∧∃ o,ops[i]? = some o∧∀ e∈o.after,Region.binds .any e=true->listed.getD e.on false=true:=by
 simp only[Region.ready,BC,Bj,An,AW];constructor
 ·rintro ⟨h1,h2,h3⟩;refine ⟨h1,h2,ops[i],Bl h1,fun e he hb => ?_⟩;rw[Bl h1] at h3;simp only[AH,Be,Array.all_eq_true'] at h3;have:=h3 e he;simpa[hb] using this
 ·rintro ⟨h1,h2,o,h3,h4⟩;refine ⟨h1,h2, ?_⟩;rw[h3];simp only[AH,Be,Array.all_eq_true'];intro e he;cases hb:Region.binds .any e with
  | false=>simp
  | true=>simp[h4 e he hb]
def drawOk {S:Seat} (hS:qO S):yN S:=by
 intro A0 O w0 nt ops la id st aa A σ w tm Q nL hdst hm oj hr h hn hk;obtain ⟨fb,e9,gz⟩:=zh0 oj;have bk:zky la (zaD la) la.length:=pq la la [] [] rfl fb ⟨rfl,fun i k o hi=>by simp at hi⟩;obtain ⟨l1,l2⟩:=zG nL;have lV:la.length=ops.size:=by simpa using l1.symm
 refine wp_region_any hm ?_
 have key:∀ (n:Nat) (R:List Nat) (listed:Array Bool) (st:ASt) (A:Nat->Prop) (σ:Nat->Option Nat) (w:World) (tm:Array Value),R.length=n->listed.size=ops.size->R.Pairwise (fun k i=>k≠i∧∀ (p o:AOper),la[k]? = some p->la[i]? = some o->i ∉ p.aft∧(((zaD la).getD i 0).testBit k=true∨zdS p o=true))->(∀ i,i∈R↔i < ops.size∧listed.getD i true=false) ->
   (∀ (i j:Nat) (o:AOper),(i < la.length∧i ∉ R)->la[i]? = some o->j∈o.aft->(j < la.length∧j ∉ R))->OpsR (zh S) true (R.map fun i=>la.getD i dOp) st aa->zbq S A0 O w0 A σ w st tm->tm.size=nt->wpAny S.P .any ops Q n listed ⟨tm,[]⟩ w:=by
  intro n
  induction n with
  | zero =>
   intro R listed st A σ w tm hlen aM kj bH iM hr h hn;have hR:R=[]:=Az.1 hlen;subst hR;simp only[Bk] at hr;cases hr with
   | cv hq=>cases hq
   | nil =>
   refine ⟨?_,hk w A σ tm h hn⟩;refine AB.2 fun i hi => ?_;obtain ⟨h1,h2,_⟩:=mem_ready.1 hi;exact absurd ((bH i).2 ⟨h1,h2⟩) (by simp)
  | succ n ih =>
   intro R listed st A σ w tm hlen aM kj bH iM hr h hn;have notin:∀ j,j < ops.size->j ∉ R->listed.getD j true=true∧listed.getD j false=true:=by
    intro j hj hjR;have h1:listed.getD j true=true:=by
     cases hq:listed.getD j true with
     | true=>rfl
     | false=>exact absurd ((bH j).2 ⟨hj,hq⟩) hjR
    refine ⟨h1, ?_⟩;have bB:j < listed.size:=by omega
    simp only[Array.getD,bB,dif_pos] at h1 ⊢;exact h1
   refine ⟨fun bz => ?_,fun i hi => ?_⟩
   ·exfalso
    match R,hlen,kj,bH with
    | i :: R,_,kj,bH =>
     have hi:=(bH i).1 Al;have pV:i∈Region.ready .any ops listed:=by
      refine mem_ready.2 ⟨hi.1,hi.2,ops[i],Bl hi.1,fun e he hb => ?_⟩;have du:la[i]? = some (la[i]'(by omega)):=Aa _;obtain ⟨o,ho,hc⟩:=l2 i _ du;have gK:o=ops[i]:=by simpa[hi.1] using ho.symm
      subst gK;have iN:=pc hc;have hj:e.on∈(la[i]'(by omega)).aft:=(by rw[iN];exact Aj.2 ⟨e,BC.2 ⟨by simpa using he,hb⟩,rfl⟩);have ae:=fb i e.on _ du hj;refine (notin e.on (by omega) fun hm => ?_).2;rcases As.1 hm with hm | hm
      ·omega
      ·have lj:e.on < la.length:=by omega
       exact ((CH kj hm).2 _ _ du (Aa lj)).1 hj
     rw[bz] at pV;cases pV
   ·obtain ⟨h1,h2,o,ho,iN⟩:=mem_ready.1 hi;have hiR:i∈R:=(bH i).2 ⟨h1,h2⟩;obtain ⟨R1,R2,rfl⟩:=List.append_of_mem hiR;have du:la[i]? = some (la[i]'(by omega)):=Aa _;obtain ⟨o',gK,hc⟩:=l2 i _ du;have:o'=o:=by simpa[ho] using gK.symm
    subst this;have ru:∀ j∈(la[i]'(by omega)).aft,j < la.length∧j ∉ R1++i :: R2:=by
     intro j hj;rw[pc hc] at hj;obtain ⟨e,he,rfl⟩:=Aj.1 hj;obtain ⟨eg,ed⟩:=BC.1 he;have hl:=iN e (by simpa using eg) ed;have ae:e.on < listed.size:=by
      refine Nat.lt_of_not_le fun km => ?_;have nX:¬ e.on < listed.size:=by omega
      simp[Array.getD,nX] at hl
     refine ⟨by omega,fun hm => ?_⟩;have:=((bH _).1 hm).2;simp only[Array.getD,ae,dif_pos] at this hl;rw[this] at hl;cases hl
    have eL:=Bt.1 kj;have iv:∀ k∈R1,zdS (la.getD k dOp) (la.getD i dOp)=true:=by
     intro k nN;have dJ:=eL.2.2 k nN i Al;have fW:k < la.length:=(by have:=((bH k).1 (Ah.2 (.inl nN))).1;omega);have e1:la.getD k dOp=la[k]:=by simp[List.getD,fW]
     have e2:la.getD i dOp=la[i]'(by omega):=by simp[List.getD,lV,h1]
     rw[e1,e2];rcases (dJ.2 _ _ (Aa fW) du).2 with hb | hb
     ·have:=zgy bk (L:=fun i'=>i' < la.length∧i' ∉ R1++i :: R2) iM fb (i+1) i k _ (by omega) du ru hb;exact absurd (Ah.2 (.inl nN)) this.2
     ·exact hb
    rw[A7,Ar] at hr;obtain ⟨s1,q1,q2⟩:=front (R1.map fun i=>la.getD i dOp) (fun k hk=>by
     obtain ⟨k',ay,rfl⟩:=Aj.1 hk;exact iv k' ay) hr
    have e2:la.getD i dOp=la[i]'(by omega):=by simp[List.getD,lV,h1]
    rw[e2] at q1;refine zfo hS h hn ho hc q1.loud fun w' A' σ' ch k1 k2 => ?_;have kR:i ∉ R1∧i ∉ R2:=by
     refine ⟨fun hm => ?_,fun hm => ?_⟩
     ·exact (eL.2.2 i hm i Al).1 rfl
     ·exact (CH eL.2.1 hm).1 rfl
    refine ih (R1++R2) _ s1 A' σ' w' ch (by simp at hlen ⊢;omega) (by simpa using aM) ?_ ?_ ?_ (by rw[A7];exact q2) k1 k2
    ·exact Bt.2 ⟨eL.1,(Bz.1 eL.2.1).2,fun a ha b hb=>eL.2.2 a ha b (Af _ hb)⟩
    ·intro j;rw[zkX (by omega)];have:=bH j;simp only[Ah,As] at this ⊢;by_cases nO:j=i
     ·subst nO;simp[kR.1,kR.2]
     ·rw[if_neg nO,← this];simp[nO]
    ·intro i' j o2 hL iE hj;by_cases l7:i'=i
     ·subst l7;rw[du] at iE;cases iE;have:=ru j hj;refine ⟨this.1,fun hm=>this.2 ?_⟩;simp only[Ah,As] at hm ⊢;exact hm.imp (fun h=>h) .inr
     ·have:=iM i' j o2 ⟨hL.1,fun hm=>hL.2 ?_⟩ iE hj
      ·refine ⟨this.1,fun hm=>this.2 ?_⟩;simp only[Ah,As] at hm ⊢;exact hm.imp (fun h=>h) .inr
      ·simp only[Ah,As] at hm ⊢;exact hm.imp (fun h=>h) fun h=>h.resolve_left l7
 have kZ:∀ (R:List Nat) (n:Nat),R.Nodup->(∀ i,i∈R↔i < n)->R.length=n:=(by intro R n hnd hR;have h1:R.length<=n:=(by have:=nodup_le n R hnd fun x hx=>(hR x).1 hx;exact this);have h2:n<=R.length:=(by have:=zdY (List.range n) R List.nodup_range fun x hx=>(hR x).2 (Bj.1 hx);simpa using this);omega);refine key ops.size (gV la) _ st A σ _ tm (kZ _ _ (gz.imp fun {a b} h=>h.1) fun i=>by rw[e9,lV]) (by simp) gz ?_ ?_ hr (let ⟨w1,r1,j1,h1⟩:=h;⟨w1,r1,j1,h1.drew⟩) hn
 ·intro i;rw[e9,lV];refine ⟨fun hi=>⟨hi,by simp[Array.getD,hi]⟩,fun hi=>hi.1⟩
 ·intro i j o hi;exact absurd ((e9 i).2 hi.1) hi.2
end
section
open Go Go.RowKit
def law_calls {S:Seat} {g id:Nat} (hg:qL g S.fns=some id) {args:List AV} (h:(zh S).ret id args (.v (.bool true)) []) {A:Nat->Prop} {w:World} {vs:Array Value} (hl:vs.size=args.length) (hA:(∀ b,A b->b < w.heap.size)∧Inv S w)
  (ha:∀ (i:Nat) (x:AV),args[i]? = some x->VR0 S A w x (vs.getD i undef)) (h1:∀ b,¬ S.jg b:=by exact fun _ h=>h) (h2:∀ w,S.jn w:=by exact fun _=>trivial):Calls S.P g vs w fun e w'=>e=.returned (.bool true)∧Below w.heap.size w w':=by
 have cF:∀ x∈args,zI x=false:=fun x hx=>(by obtain ⟨i,hi⟩:=AA.1 hx;have:=ha i x hi;generalize vs.getD i undef=v at this;cases this<;>rfl);refine ((h g hg).old cF A w vs hl hA (.none h1 h2 _ _ _) ha).mono fun e w' ⟨v,he,hk,_,hr⟩ => ?_;obtain ⟨β,_,_,_,hv⟩:=hr;have:v=.bool true:=(VR.of0 (σ:=fun _=>none) hv).v_inv;subst this;exact ⟨he,⟨hk.os,hk.tape,hk.output,hk.size,fun k ay=>hk.block k ay (h1 k)⟩⟩
end
end Ab
