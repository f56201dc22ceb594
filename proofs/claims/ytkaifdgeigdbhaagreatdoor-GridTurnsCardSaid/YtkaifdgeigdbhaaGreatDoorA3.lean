import Derived.Test.YtkaifdgeigdbhaaGreatDoorA2
import Derived.Orders
import Derived.Below
open List (all_eq_true contains_eq_mem contains_nil getElem?_eq_getElem map_congr_left mem_append mem_cons mem_cons_of_mem mem_cons_self mem_filter mem_map mem_of_getElem? mem_range)
open Nat (blt_eq zero_add)
open Option (map_eq_some_iff map_some)
open Bool (and_eq_true false_eq_true not_eq_true' or_eq_true)
open Array (getD_eq_getD_getElem?)
set_option linter.unusedVariables false
set_option linter.unusedSimpArgs false
set_option linter.unnecessarySimpa false
namespace Ab
open Go
section
open Go Go.RowKit
section
variable {S:Seat} {A0:Nat->Prop} {O:Hnd} {w0:World} {A:Nat->Prop} {σ:Nat->Option Nat} {w:World} {st st':ASt} {tm:Array Value} {df:List Deferred} {o:Oper} {v:AV} {d:Nat}
theorem zcS {P:Program} {t:TypeId} {f:Nat} {fl:Field} (h:zcT P t f=some fl):∃ fs,P.underlying t=some (.struct fs)∧fs[f]? = some fl:=by
 unfold zcT at h;split at h
 ·rename_i fs hu;exact ⟨fs,hu,h⟩
 ·cases h
theorem op_binOp (h:SRel S A0 O w0 A σ w st tm) {op:BinOp} {t u:TypeId} {x y:Operand} (ho:o.op=.binOp op t x y u) {a:AOp} (hc:cBin S op t x y=some a) (ha:aop a d st=some (v,st')):yB S A0 O w0 w tm df o v st':=by
 unfold cBin at hc;split at hc
 ·rename_i k x' y' hu hx hy;have:a=.bin .int op x' y':=by cases op<;>simp at hc<;>exact hc.symm
  subst this;exact op_bin h ho (fun e=>by cases e) hx hy ha
 ·rename_i x' y' hu hx hy;have:a=.bin .str op x' y':=by cases op<;>simp at hc<;>exact hc.symm
  subst this;exact op_bin h ho (fun e=>by cases e) hx hy ha
 ·rename_i x' y' hu hx hy;have:a=.bin .bool op x' y':=by cases op<;>simp at hc<;>exact hc.symm
  subst this;exact op_bin h ho (fun _=>hu) hx hy ha
 ·rename_i fs x' y' hu hx hy;split at hc
  ·rename_i hg;split at hc
   ·rename_i l _ hl;cases hc;exact op_eqa (neg:=false) h (by simpa using ho) hu hg.1 hg.2 (by assumption) hx hy ha
   ·rename_i l _ hl;cases hc;exact op_eqa (neg:=true) h (by simpa using ho) hu hg.1 hg.2 (by assumption) hx hy ha
   ·cases hc
  ·cases hc
 ·rename_i ms x' y' hu hx hy;split at hc
  ·split at hc
   ·cases hc;rename_i hn;exact zeo (neg:=false) (z:=x) h (by simpa using ho) hu (.inl ⟨rfl,hn⟩) hx ha
   ·split at hc
    ·cases hc;rename_i hn;exact zeo (neg:=false) (z:=y) h (by simpa using ho) hu (.inr ⟨rfl,hn⟩) hy ha
    ·cases hc
  ·split at hc
   ·cases hc;rename_i hn;exact zeo (neg:=true) (z:=x) h (by simpa using ho) hu (.inl ⟨rfl,hn⟩) hx ha
   ·split at hc
    ·cases hc;rename_i hn;exact zeo (neg:=true) (z:=y) h (by simpa using ho) hu (.inr ⟨rfl,hn⟩) hy ha
    ·cases hc
  ·cases hc
 ·rename_i e x' y' hu hx hy;split at hc
  ·cases hc;exact op_eqnS (neg:=false) h (by simpa using ho) hu hx ha
  ·cases hc;exact op_eqnS (neg:=true) h (by simpa using ho) hu hx ha
  ·cases hc
 ·cases hc
theorem op_conv (h:SRel S A0 O w0 A σ w st tm) {s t:TypeId} {x:Operand} (ho:o.op=.convert s t x) {a:AOp} (hc:zhp S s t x=some a) (ha:aop a d st=some (v,st')):yB S A0 O w0 w tm df o v st':=by
 unfold zhp at hc;split at hc
 ·rename_i k0 k x' hs ht hx;cases hc;exact op_cvi h ho hs ht hx ha
 ·rename_i e x' hs ht hx;split at hc
  ·rename_i he hz;cases hc;exact op_cvs (i:=default) h ho hs ht he hx ha
  ·cases hc
 ·cases hc
theorem ziR (h:SRel S A0 O w0 A σ w st tm) {c:Call} (ho:o.op=.call c) {a:AOp} (hc:zeT S c o.type=some a) (ha:aop a d st=some (v,st')):yB S A0 O w0 w tm df o v st':=by
 obtain ⟨callee,args,tys⟩:=c;unfold zeT at hc;split at hc
 ·split at hc
  ·cases hc;simp[aop] at ha
  ·cases hc
 ·split at hc
  ·cases hc;simp[aop] at ha
  ·cases hc
 ·rename_i hcal;simp only at hcal;subst hcal;split at hc
  ·rename_i x t hx ht;have hargs:args=#[x]:=by simpa using congrArg List.toArray hx
   have htys:tys=#[t]:=by simpa using congrArg List.toArray ht
   subst hargs;subst htys;split at hc
   ·rename_i hu;simp only[map_eq_some_iff] at hc;obtain ⟨x',hx',rfl⟩:=hc;exact op_lenS h ho hu hx' ha
   ·rename_i e hu;simp only[map_eq_some_iff] at hc;obtain ⟨x',hx',rfl⟩:=hc;exact op_len h ho hu hx' ha
   ·cases hc
  ·cases hc
 ·rename_i hcal;simp only at hcal;subst hcal;split at hc
  ·rename_i x y t u hx ht;have hargs:args=#[x,y]:=by simpa using congrArg List.toArray hx
   have htys:tys=#[t,u]:=by simpa using congrArg List.toArray ht
   subst hargs;subst htys;split at hc
   ·rename_i e z zs x' y' he hz hx' hy';split at hc
    ·rename_i htu;subst htu;cases hc;obtain ⟨hu,i,hi,hsz,h0,h1,h2⟩:=jH he;rw[he] at hz;obtain ⟨i',zv,k1,k2,k3,k4,k5,k6⟩:=jG hz;simp only[Option.getD_some] at k1;obtain rfl:i'=i:=Option.some.inj (k1.symm.trans hi);simp only at hsz;subst hsz;exact op_app h ho hu hi k2 k4 h2 hx' hy' ha
    ·cases hc
   ·cases hc
  ·cases hc
 ·rename_i hcal;simp only at hcal;subst hcal;split at hc
  ·rename_i x y hx;have hargs:args=#[x,y]:=by simpa using congrArg List.toArray hx
   subst hargs;split at hc
   ·rename_i x' y' hx' hy';cases hc;exact op_max h ho hx' hy' ha
   ·cases hc
  ·cases hc
 ·cases hc
theorem op_all (h:SRel S A0 O w0 A σ w st tm) {a:AOp} (hc:cOp S o.op o.type=some a) (ha:aop a d st=some (v,st')):yB S A0 O w0 w tm df o v st':=by
 unfold cOp at hc;split at hc
 ·rename_i x ho;simp only[map_eq_some_iff] at hc;obtain ⟨x',hx,rfl⟩:=hc;exact op_mov h (.inl ho) hx ha
 ·rename_i x ho;simp only[map_eq_some_iff] at hc;obtain ⟨x',hx,rfl⟩:=hc;exact op_mov h (.inr ho) hx ha
 ·rename_i e x ho;simp only[map_eq_some_iff] at hc;obtain ⟨x',hx,rfl⟩:=hc;exact op_box h ho hx ha
 ·rename_i e ho;simp only[map_eq_some_iff] at hc;obtain ⟨z,hz,rfl⟩:=hc;exact op_alloc h ho hz ha
 ·rename_i t ps ho;split at hc
  ·rename_i fs zero l hu hz hl;split at hc
   ·rename_i szs hs;cases hc;exact op_build h ho hu hz hl hs ha
   ·cases hc
  ·cases hc
 ·rename_i t len ps ho;split at hc
  ·rename_i e z zero l he hz hl;split at hc
   ·rename_i hlen;cases hc;obtain ⟨hu,i,hi,hsz,h0,h1,h2⟩:=jH he;rw[he] at hz;obtain ⟨i',zv,k1,k2,k3,k4,k5,k6⟩:=jG hz;simp only[Option.getD_some] at k1;obtain rfl:i'=i:=Option.some.inj (k1.symm.trans hi);simp only at hsz;subst hsz;subst k3;exact op_bslice h ho hu hi k2 k4 h0 h1 k6 hl hlen ha
   ·cases hc
  ·cases hc
 ·rename_i t x ho;split at hc
  ·rename_i n x' hn hx;cases hc;exact op_load h ho hn hx ha
  ·cases hc
 ·rename_i t a' x ho;split at hc
  ·rename_i z a2 x2 hz h1 h2;cases hc;exact op_store h ho hz h1 h2 ha
  ·cases hc
 ·rename_i x ho;simp only[map_eq_some_iff] at hc;obtain ⟨x',hx,rfl⟩:=hc;exact op_chk h ho hx ha
 ·rename_i op t x y u ho;exact op_binOp h ho hc ha
 ·rename_i op t x ho;split at hc
  ·simp only[map_eq_some_iff] at hc;obtain ⟨x',hx,rfl⟩:=hc;exact op_un h ho hx ha
  ·simp only[map_eq_some_iff] at hc;obtain ⟨x',hx,rfl⟩:=hc;exact op_un h ho hx ha
  ·cases hc
 ·rename_i s t x ho;exact op_conv h ho hc ha
 ·rename_i t x ho;split at hc
  ·rename_i k x' i hk hx hu;cases hc;exact op_ifc h ho hx hk (.inl ⟨i,hu⟩) ha
  ·rename_i k x' fs hk hx hu;cases hc;exact op_ifc h ho hx hk (.inr ⟨fs,hu⟩) ha
  ·cases hc
 ·rename_i f first caps ho
  split at hc
  ·rename_i hf;split at hc
   ·rename_i id l hid hl;cases hc;exact op_mkfn h ho hf hid hl ha
   ·cases hc
  ·cases hc
 ·rename_i t l c ho;split at hc
  ·rename_i e z zero l' c' he hz hl hc';cases hc;obtain ⟨hu,i,hi,hsz,h0,h1,h2⟩:=jH he;rw[he] at hz;obtain ⟨i',zv,k1,k2,k3,k4,k5,k6⟩:=jG hz;simp only[Option.getD_some] at k1;obtain rfl:i'=i:=Option.some.inj (k1.symm.trans hi);simp only at hsz;subst hsz;subst k3;exact op_mksl h ho hu hi k2 k4 h0 h2 k6 hl hc' ha
  ·cases hc
 ·rename_i t x lo hi ho;split at hc
  ·rename_i x' lo' hi' hu hx hlo hhi;cases hc;exact op_slcS h ho hu hx hlo hhi ha
  ·rename_i e0 x' lo' hi' hu hx hlo hhi;split at hc
   ·rename_i e z he;cases hc;obtain ⟨hu',i,hi2,hsz,h0,h1,h2⟩:=jH he;simp only at hsz;subst hsz;exact op_slc h ho hu' hi2 h0 hx hlo hhi ha
   ·cases hc
  ·cases hc
 ·rename_i t x f ho;split at hc
  ·rename_i fl x' hf hx;split at hc
   ·rename_i n hn;split at hc
    ·rename_i h0;cases hc;obtain ⟨fs,hu,hfl⟩:=zcS hf;exact op_fa h ho hu hfl hn h0 hx ha
    ·cases hc
   ·cases hc
  ·cases hc
 ·rename_i t x f ho;split at hc
  ·rename_i fl x' hf hx;split at hc
   ·rename_i n hn;cases hc;obtain ⟨fs,hu,hfl⟩:=zcS hf;exact op_fld h ho hu hfl hn hx ha
   ·cases hc
  ·cases hc
 ·rename_i t x i ho;split at hc
  ·rename_i e z x' i' he hx hi;cases hc;obtain ⟨hu,inf,hinf,hsz,h0,h1,h2⟩:=jH he;simp only at hsz;subst hsz;exact op_ia h ho hu hinf hx hi ha
  ·cases hc
 ·rename_i t x i ho;split at hc
  ·rename_i x' i' hu hx hi;cases hc;exact op_ix h ho hu hx hi ha
  ·cases hc
 ·rename_i x i ho;simp only[map_eq_some_iff] at hc;obtain ⟨x',hx,rfl⟩:=hc;exact op_ext h ho hx ha
 ·rename_i c a' b ho;split at hc
  ·rename_i c' a2 b2 h1 h2 h3;cases hc;exact op_pick h ho h1 h2 h3 ha
  ·cases hc
 ·rename_i c ho;exact ziR h ho hc ha
 ·cases hc
end
end
section
open Go Go.RowKit
def exOf:AExit->Exit
 | .norm=>.normal
 | .exit id=>.exit id
 | .ret=>.ret
def Post (S:Seat) (A0:Nat->Prop) (O:Hnd) (w0:World) (nt:Nat) (e:AExit) (st':ASt):Exit->Act->World->Prop :=
 fun ex a w'=>ex=exOf e∧a.defers=[]∧a.tmps.size=nt∧∃ A' σ',wX S A0 O w0 A' σ' w' st' a.tmps
section
variable {S:Seat} {A0:Nat->Prop} {O:Hnd} {w0:World} {A:Nat->Prop} {σ:Nat->Option Nat} {w:World} {st st':ASt} {tm:Array Value} {df:List Deferred} {o:Oper} {v:AV} {d:Nat} {nt:Nat}
theorem zjc {ops:Array Oper} {draw:Bool} {o:Oper} {a:AOper} (h:zeS S nt ops draw o=some a):(∃ op0,cOp S o.op o.type=some op0∧(a.op=op0∨∃ lt,a.op=noFrz S lt op0))∧a.dst=o.dst∧(∀ d,o.dst=some d->d < nt∧d < 1000) ∧
  (match o.guard with | none=>a.grd=none | some (j,want)=>∃ t,(ops[j]?).bind (·.dst)=some t∧a.grd=some (t,want)):=by
 unfold zeS at h;split at h
 ·rename_i op g h1 h2;split at h
  ·rename_i hd;cases h;refine ⟨⟨op,h1,by cases draw;exact .inl rfl;exact .inr ⟨_,rfl⟩⟩,rfl,fun d hd' => ?_, ?_⟩
   ·rw[hd'] at hd;simpa[dstB] using hd
   ·split at h2
    ·rename_i hg;cases h2;rw[hg]
    ·rename_i j want hg;rw[hg];simp only[map_eq_some_iff] at h2;obtain ⟨t,h3,rfl⟩:=h2;exact ⟨t,h3,rfl⟩
  ·cases h
 ·cases h
def yW:AOp->Bool
 | .call _ _ _ _ | .calld _ _ _=>true
 | _=>false
def isB:AOp->Bool
 | .bslice _ _ _ _ _=>true
 | _=>false
theorem cBin_nb {op:BinOp} {t:TypeId} {x y:Operand} {a:AOp} (h:cBin S op t x y=some a):isB a=false:=by
 unfold cBin at h
 repeat' split at h
 all_goals (first | (cases h;rfl) | cases h)
theorem cConv_nb {s t:TypeId} {x:Operand} {a:AOp} (h:zhp S s t x=some a):isB a=false:=by
 unfold zhp at h
 repeat' split at h
 all_goals (first | (cases h;rfl) | cases h)
theorem map_nb {α:Type} {x:Option α} {f:α->AOp} {a:AOp} (h:x.map f=some a) (hf:∀ y,isB (f y)=false):isB a=false:=by simp only[map_eq_some_iff] at h;obtain ⟨y,_,rfl⟩:=h;exact hf y
theorem cCall_nb {c:Call} {ty:TypeId} {a:AOp} (h:zeT S c ty=some a):isB a=false:=by
 unfold zeT at h
 repeat' split at h
 all_goals (first | (cases h;rfl) | cases h | exact map_nb h fun _=>rfl)
theorem cBin_nc {op:BinOp} {t:TypeId} {x y:Operand} {a:AOp} (h:cBin S op t x y=some a):yW a=false:=by
 unfold cBin at h
 repeat' split at h
 all_goals (first | (cases h;rfl) | cases h)
theorem cConv_nc {s t:TypeId} {x:Operand} {a:AOp} (h:zhp S s t x=some a):yW a=false:=by
 unfold zhp at h
 repeat' split at h
 all_goals (first | (cases h;rfl) | cases h)
theorem map_nc {α:Type} {x:Option α} {f:α->AOp} {a:AOp} (h:x.map f=some a) (hf:∀ y,yW (f y)=false):yW a=false:=by simp only[map_eq_some_iff] at h;obtain ⟨y,_,rfl⟩:=h;exact hf y
theorem zii {o:Op} {ty:TypeId} {a:AOp} (h:cOp S o ty=some a) (ha:yW a=true):∃ c,o=.call c∧zeT S c ty=some a:=by
 have no:yW a=false->∃ c,o=.call c∧zeT S c ty=some a:=fun h=>by rw[ha] at h;cases h
 unfold cOp at h;split at h
 case h_23=>exact ⟨_,rfl,h⟩
 all_goals apply no
 all_goals first
  | exact cBin_nc h
  | exact cConv_nc h
  | exact map_nc h fun _=>rfl
  | ((repeat' split at h)<;>(first | (cases h;rfl) | cases h | exact map_nc h fun _=>rfl))
theorem op_lit' (h:SRel S A0 O w0 A σ w st tm) {frz:Bool} {z:Nat} {zero:List Value} {len:Nat} {ps:List (Nat×AOpd)} (hc:cOp S o.op o.type=some (.bslice frz z zero len ps)) (ha:aop (.lit z zero len ps) d st=some (v,st')):yB S A0 O w0 w tm df o v st':=by
 generalize hop:o.op=op at hc;have no:∀ {x:Option AOp},x=some (.bslice frz z zero len ps)->(∀ a,x=some a->isB a=false)->False:=fun h1 h2=>(by have:=h2 _ h1;simp[isB] at this);unfold cOp at hc;split at hc
 case h_6 t len' ps' =>
  split at hc
  ·rename_i e z' zero' l he hz hl;split at hc
   ·rename_i hlen;cases hc;obtain ⟨hu,i,hi,hsz,h0,h1,h2⟩:=jH he;rw[he] at hz;obtain ⟨i',zv,k1,k2,k3,k4,k5,k6⟩:=jG hz;simp only[Option.getD_some] at k1;obtain rfl:i'=i:=Option.some.inj (k1.symm.trans hi);simp only at hsz;subst hsz;subst k3;exact op_lit h hop hu hi k2 k4 h0 h1 k6 hl hlen ha
   ·cases hc
  ·cases hc
 all_goals exfalso
 all_goals first
  | exact no hc fun a ha=>cBin_nb ha
  | exact no hc fun a ha=>cConv_nb ha
  | exact no hc fun a ha=>map_nb ha fun _=>rfl
  | exact no hc fun a ha=>cCall_nb ha
  | ((repeat' split at hc)<;>(first | (cases hc;done) | exact no hc fun a ha=>map_nb ha fun _=>rfl))
def Same (a b:AOp):Prop:=b=a∨(∃ frz muts f xs m,a=.call frz muts f xs∧b=.call frz m f xs)∨∃ frz z zero len ps,a=.bslice frz z zero len ps∧b=.lit z zero len ps
theorem step_call (hS:zO S) (hJ:wX S A0 O w0 A σ w st tm) {a a':AOp} (hc:cOp S o.op o.type=some a) (hm:Same a a') (hs:qX (za S) false a' d st v st') {next:Act->World->Prop} {Q:Exit->Act->World->Prop}
  (hn:∀ w' A' σ' rv,wX S A0 O w0 A' σ' w' st' tm->(Got S A' σ' w' st' v rv∨(v=.bot∧rv=undef))->next (Act.put ⟨tm,df⟩ o.dst rv) w'):o.wp S.P ⟨tm,df⟩ w next Q:=by
 obtain ⟨w1,hreb,jr,h⟩:=hJ
 -- a call of function g
 have call:∀ (g f:Nat) (frz:Bool) (muts:List Nat) (args:List AV) (vs:Array Value),zV g S.fns=some f->(execOp (Act.eval ⟨tm,df⟩) o).run S.P w=.ok (.enter g vs) w->vs.size=args.length->(∀ (i:Nat) (x:AV),args[i]? = some x->Got S A σ w st x (vs.getD i undef)) ->
   zaq (za S) frz muts f args d st v st'->o.wp S.P ⟨tm,df⟩ w next Q:=by
  intro g f frz muts args vs hf hr hl hg hcr;unfold Oper.wp;rw[hr,Oper.upon_enter];have hcall:Calls S.P g vs w fun e w'=>∃ rv A' σ' w2,e=.returned rv∧RebR S w1 w2∧JR S A0 O w2∧SRel S A0 O w2 A' σ' w' st' tm∧Got S A' σ' w' st' v rv:=by
   cases muts with
   | nil=>exact zhm h jr hl hg hf hcr
   | cons m ms=>exact zhn h jr hl hg hf rfl hcr
  refine hcall.mono fun e w' ⟨rv,A',σ',w2,he,k0,j2,k1,k2⟩ => ?_;subst he;exact hn w' A' σ' rv ⟨w2,hreb.trans k0,j2,k1⟩ (.inl k2)
 have other:aop a d st=some (v,st')->o.wp S.P ⟨tm,df⟩ w next Q:=by
  intro ha;obtain ⟨n,w',A',σ',hr,k1,k2⟩:=op_all (df:=df) h hc ha;unfold Oper.wp;rw[hr];rcases k2 with ⟨rv,rfl,k2⟩ | ⟨rfl,k2⟩
  ·exact hn w' A' σ' rv ⟨w1,hreb,jr,k1⟩ (.inl k2)
  ·exact hn w' A' σ' undef ⟨w1,hreb,jr,k1⟩ (.inr ⟨k2,rfl⟩)
 have hsame:(∀ frz muts f xs,a≠.call frz muts f xs)->(∀ frz z zero len ps,a≠.bslice frz z zero len ps)->a'=a:=fun hno hno2=>by
  rcases hm with e | ⟨frz,muts,f,xs,m,e,_⟩ | ⟨frz,z,zero,len,ps,e,_⟩
  ·exact e
  ·exact absurd e (hno frz muts f xs)
  ·exact absurd e (hno2 frz z zero len ps)
 cases a with
 | call frz muts f as =>
  obtain ⟨m',rfl⟩:∃ m',a'=.call frz m' f as:=by
   rcases hm with e | ⟨_,_,_,_,m,e,e2⟩ | ⟨_,_,_,_,_,e,_⟩
   ·exact ⟨muts,e⟩
   ·cases e;exact ⟨m,e2⟩
   ·cases e
  simp only[qX,false_eq_true,false_and,if_false] at hs;obtain ⟨c,ho,hc⟩:=zii hc rfl;obtain ⟨callee,args,tys⟩:=c;unfold zeT at hc;split at hc
  ·rename_i g hcal;simp only at hcal;subst hcal;split at hc
   ·rename_i id xs hid hxs;cases hc;obtain ⟨e1,e2⟩:=h.evs (df:=df) hxs;refine call g f _ _ (as.map st.ev) (args.map (Act.eval ⟨tm,df⟩)) hid ?_ (by simp at e1 ⊢;omega) (fun i x hx => ?_) hs
    ·have:=zbu hS hid (args.map (Act.eval ⟨tm,df⟩)) w;have e0:Act.eval ⟨tm,df⟩ (.func g)=.func (.func g) #[] #[]:=rfl;simp[execOp,ho,resolve,Deferred.ofValue,invoke,e0,this]
    ·have:=e2 i x hx;simpa[getD_eq_getD_getElem?,List.getD] using this
   ·cases hc
  all_goals (repeat' (split at hc))<;>(first | cases hc | (simp at hc;done))
 | calld frz x as =>
  obtain rfl:=hsame (by simp) (by simp);simp only[qX,false_eq_true,if_false] at hs;obtain ⟨c,ho,hc⟩:=zii hc rfl;obtain ⟨callee,args,tys⟩:=c;unfold zeT at hc;split at hc
  ·(repeat' (split at hc))<;>(first | cases hc | (simp at hc;done))
  ·rename_i t hcal;simp only at hcal;subst hcal;split at hc
   ·rename_i xs hxs;cases hc;split at hs
    ·rename_i f caps hev;obtain ⟨e1,e2⟩:=h.evs (df:=df) hxs;have gt:=h.ev (df:=df) (x:=.tmp t) (a:=.t t) rfl;rw[hev] at gt;obtain ⟨g,us,hv,hid,u1,u2⟩:=gt.rel.fn_inv;refine call g f _ _ (as.map st.ev++caps) (args.map (Act.eval ⟨tm,df⟩)++us) hid ?_ (by simp at e1 ⊢;omega) (fun i x hx => ?_) hs
     ·have:=zbu hS hid (args.map (Act.eval ⟨tm,df⟩)++us) w;simp[execOp,ho,resolve,Deferred.ofValue,invoke,hv,this]
     ·have hsz:(args.map (Act.eval ⟨tm,df⟩)).size=(as.map st.ev).length:=by simp at e1 ⊢;omega
      by_cases hlt:i < (as.map st.ev).length
      ·rw[List.getElem?_append_left hlt] at hx;have:=e2 i x hx;have e3:(args.map (Act.eval ⟨tm,df⟩)++us).getD i undef=(args.toList.map (Act.eval ⟨tm,df⟩)).getD i undef:=(by rw[getD_eq_getD_getElem?,Array.getElem?_append_left (by omega)];simp[List.getD]);rw[e3];exact this
      ·rw[List.getElem?_append_right (by omega)] at hx;have e3:(args.map (Act.eval ⟨tm,df⟩)++us).getD i undef=us.getD (i - (as.map st.ev).length) undef:=(by rw[getD_eq_getD_getElem?,Array.getElem?_append_right (by omega),hsz,getD_eq_getD_getElem?]);rw[e3];exact ⟨u2 _ x hx,fun s hs'=>gt.dang s (by rw[AV.refs];exact ze.2 ⟨x,mem_of_getElem? hx,hs'⟩)⟩
    ·exact hs.elim
   ·cases hc
  all_goals (repeat' (split at hc))<;>(first | cases hc | (simp at hc;done))
 | bslice frz z zero len ps =>
  rcases hm with rfl | ⟨_,_,_,_,_,e,_⟩ | ⟨_,_,_,_,_,e,e2⟩
  ·exact other hs
  ·cases e
  ·cases e;subst e2;obtain ⟨n,w',A',σ',hr,k1,k2⟩:=op_lit' (df:=df) h hc hs;unfold Oper.wp;rw[hr];rcases k2 with ⟨rv,rfl,k2⟩ | ⟨rfl,k2⟩
   ·exact hn w' A' σ' rv ⟨w1,hreb,jr,k1⟩ (.inl k2)
   ·exact hn w' A' σ' undef ⟨w1,hreb,jr,k1⟩ (.inr ⟨k2,rfl⟩)
 | _=>obtain rfl:=hsame (by simp) (by simp);exact other hs
end
end
section
open Go Go.RowKit
section
variable {S:Seat} {A0:Nat->Prop} {O:Hnd} {w0:World} {A:Nat->Prop} {σ:Nat->Option Nat} {w:World} {st st':ASt} {tm:Array Value} {df:List Deferred} {o:Oper} {v:AV} {d:Nat} {nt:Nat}
def Match (S:Seat) (nt:Nat) (draw:Bool) (ops:Array Oper):List Nat->List AOper->Prop
 | [],[]=>True
 | i :: L,a :: la=>(∃ o,ops[i]? = some o∧zeS S nt ops draw o=some a)∧Match S nt draw ops L la
 | _,_=>False
theorem SRel.putO (h:SRel S A0 O w0 A σ w st tm) (hn:tm.size=nt) {dst:Option Nat} (hd:∀ d,dst=some d->d < nt) {x:AV} {rv:Value} (hg:Got S A σ w st x rv) :
  SRel S A0 O w0 A σ w (st.putO dst x) (Act.put ⟨tm,df⟩ dst rv).tmps∧(Act.put ⟨tm,df⟩ dst rv).tmps.size=nt∧(Act.put ⟨tm,df⟩ dst rv).defers=df:=by
 cases dst with
 | none=>exact ⟨h,hn,rfl⟩
 | some d=>exact ⟨h.put (by rw[hn];exact hd d rfl) hg,by simp[Act.put,hn],rfl⟩
theorem qX.noFrz {M:Rets} {q:Bool} {op:AOp} {d:Nat} {st st':ASt} {v:AV} {lt:Bool} (h:qX M q (noFrz S lt op) d st v st'):∃ op',Same op op'∧qX M q op' d st v st':=by
 cases op with
 | bslice frz z zero len ps =>
  cases lt with
  | true=>exact ⟨_,.inr (.inr ⟨frz,z,zero,len,ps,rfl,rfl⟩),h⟩
  | false =>
  have h':aop (.bslice false z zero len ps) d st=some (v,st'):=h;refine ⟨_,.inl rfl, ?_⟩;show aop (.bslice frz z zero len ps) d st=some (v,st');simp only[aop] at h' ⊢;split at h'
  ·rename_i ps' e1 e2;split at h'
   ·rename_i hc;rw[if_pos (.inr (hc.resolve_left (by simp)))];exact h'
   ·cases h'
  ·cases h'
 | call frz muts f xs =>
  cases muts with
  | nil =>
   simp only[Ab.noFrz] at h;split at h
   ·exact ⟨_,.inr (.inl ⟨frz,[],f,xs,[3000],rfl,rfl⟩),h⟩
   ·exact ⟨_,.inl rfl,h⟩
  | cons m ms=>exact ⟨_,.inl rfl,h⟩
 | _=>exact ⟨_,.inl rfl,h⟩
theorem OpR.noFrz {M:Rets} {q:Bool} {a:AOper} {op0:AOp} {st st':ASt} (hop:a.op=op0∨∃ lt,a.op=Ab.noFrz S lt op0) (h:OpR M q a st st'):∃ op',Same op0 op'∧OpR M q { a with op:=op' } st st':=by
 rcases h with ⟨h1,v,st1,h2,h3⟩ | h
 ·rcases hop with e | ⟨lt,e⟩
  ·rw[e] at h2;exact ⟨op0,.inl rfl,.inl ⟨h1,v,st1,h2,h3⟩⟩
  ·rw[e] at h2;obtain ⟨op',k1,k2⟩:=h2.noFrz;exact ⟨op',k1,.inl ⟨h1,v,st1,k2,h3⟩⟩
 ·exact ⟨op0,.inl rfl,.inr h⟩
theorem zgT (hS:zO S) (h:wX S A0 O w0 A σ w st tm) (hn:tm.size=nt) {ops:Array Oper} {i:Nat} {a:AOper} {op0:AOp} (ho:ops[i]? = some o) (c1:cOp S o.op o.type=some op0) (hsm:Same op0 a.op) (c2:a.dst=o.dst) (c3:∀ d,o.dst=some d->d < nt∧d < 1000) (c4:match o.guard with | none=>a.grd=none | some (j,want)=>∃ t,(ops[j]?).bind (·.dst)=some t∧a.grd=some (t,want)) (hr:OpR (za S) false a st st')
  {Q:Exit->Act->World->Prop} {K:Act->World->Prop} (hk:∀ w' A' σ' tm',wX S A0 O w0 A' σ' w' st' tm'->tm'.size=nt->K ⟨tm',df⟩ w'):wpOp S.P ops Q i K ⟨tm,df⟩ w:=by
 have hwant:∀ b,zbL st a.grd=some b->Region.wanted o (yielded ops tm)=b:=by
  intro b hb;unfold Region.wanted;cases hg:o.guard with
  | none =>rw[hg] at c4;simp only at c4;rw[c4] at hb;simp only[zbL,Option.some.injEq] at hb;exact hb
  | some p =>
   obtain ⟨j,want⟩:=p;rw[hg] at c4;obtain ⟨t,h1,h2⟩:=c4;rw[h2] at hb;simp only[zbL] at hb;split at hb
   ·rename_i c hc';simp only[Option.some.injEq] at hb;obtain ⟨_,_,_,h⟩:=h;have hv:=h.fr t;rw[hc'] at hv;have e:=hv.v_inv;have e2:tm[t]? = some (.bool c):=by
     rw[getD_eq_getD_getElem?] at e;cases hq:tm[t]? with
     | none=>rw[hq] at e;simp[undef] at e
     | some x=>rw[hq] at e;simp at e;rw[e]
    simp only[yielded,h1,Option.bind_some,e2];rw[← hb];cases c<;>cases want<;>rfl
   ·rename_i y hc';simp only[Option.some.injEq] at hb;obtain ⟨_,_,_,h⟩:=h;have hv:=h.fr t;rw[hc'] at hv;have e:=hv.v_inv;have e2:∀ c,tm[t]?≠some (.bool c):=(by intro c hq;rw[getD_eq_getD_getElem?,hq] at e;cases e);have e3:yielded ops tm j=none:=by
     unfold yielded;rw[h1];split
     ·rename_i c hq;exact absurd hq (e2 c)
     ·rfl
    simp only[e3,← hb];rfl
   ·cases hb
 simp only[wpOp,ho];rcases hr with ⟨hg,v,st1,hs,rfl⟩ | ⟨hg,rfl⟩
 ·rw[if_pos (hwant true hg)];left;refine step_call hS h c1 hsm hs fun w' A' σ' rv k1 k2 => ?_;have hgot:Got S A' σ' w' st1 v rv:=by
   rcases k2 with k2 | ⟨rfl,rfl⟩
   ·exact k2
   ·exact ⟨.of0 (.bot _),by simp[AV.refs]⟩
  obtain ⟨w2,r2,j2,k1⟩:=k1;obtain ⟨q1,q2,q3⟩:=k1.putO (df:=df) hn (dst:=o.dst) (fun d hd=>(c3 d hd).1) hgot;rw[c2] at hk;have:=hk w' A' σ' _ ⟨w2,r2,j2,q1⟩ q2;rw[show (Act.put ⟨tm,df⟩ o.dst rv)=⟨(Act.put ⟨tm,df⟩ o.dst rv).tmps,df⟩ from by cases o.dst<;>rfl];exact this
 ·rw[if_neg (by rw[hwant false hg];simp)];obtain ⟨w2,r2,j2,h⟩:=h;obtain ⟨q1,q2,q3⟩:=h.putO (df:=df) hn (dst:=o.dst) (fun d hd=>(c3 d hd).1) (x:=ud) (rv:=undef) ⟨.of0 (.v _),by simp[AV.refs,ud]⟩;rw[c2] at hk;have:=hk w A σ _ ⟨w2,r2,j2,q1⟩ q2;rw[show (Act.put ⟨tm,df⟩ o.dst undef)=⟨(Act.put ⟨tm,df⟩ o.dst undef).tmps,df⟩ from by cases o.dst<;>rfl];exact this
theorem zdK (hS:zO S) (h:wX S A0 O w0 A σ w st tm) (hn:tm.size=nt) {ops:Array Oper} {draw:Bool} {i:Nat} {a:AOper} (ho:ops[i]? = some o) (hc:zeS S nt ops draw o=some a) (hr:OpR (za S) false a st st')
  {Q:Exit->Act->World->Prop} {K:Act->World->Prop} (hk:∀ w' A' σ' tm',wX S A0 O w0 A' σ' w' st' tm'->tm'.size=nt->K ⟨tm',df⟩ w'):wpOp S.P ops Q i K ⟨tm,df⟩ w:=by
 obtain ⟨⟨op0,c1,hop⟩,c2,c3,c4⟩:=zjc hc;obtain ⟨op',k1,k2⟩:=OpR.noFrz hop hr;exact zgT (a:={ a with op:=op' }) hS h hn ho c1 k1 c2 c3 c4 k2 hk
theorem ops_sound (hS:zO S) {ops:Array Oper} {draw:Bool} {Q:Exit->Act->World->Prop} (L:List Nat) (la:List AOper) {st:ASt} {A:Nat->Prop} {σ:Nat->Option Nat} {w:World} {tm:Array Value} (hm:Match S nt draw ops L la) (hr:OpsR (za S) false la st st') (h:wX S A0 O w0 A σ w st tm) (hn:tm.size=nt)
  (hq:∀ w' A' σ' tm',wX S A0 O w0 A' σ' w' st' tm'->tm'.size=nt->Q .normal ⟨tm',df⟩ w'):wpOps S.P ops Q L ⟨tm,df⟩ w:=by
 induction hr generalizing L A σ w tm with
 | nil st =>
  cases L with
  | nil=>exact hq w A σ tm h hn
  | cons i L=>exact hm.elim
 | cv hq0 hcv hr ih =>obtain ⟨w2,r2,j2,h⟩:=h;obtain ⟨A',σ',h'⟩:=hcv A0 O w2 A σ w tm h;exact ih L hm ⟨w2,r2,j2,h'⟩ hn hq
 | cons h1 h2 ih =>
  cases L with
  | nil=>exact hm.elim
  | cons i L =>obtain ⟨⟨o,ho,hc⟩,hm'⟩:=hm;rw[wpOps_cons];exact zdK hS h hn ho hc h1 fun w' A' σ' tm' k1 k2=>ih L hm' k1 k2 hq
theorem zcq {ops:Array Oper} {draw:Bool}:∀ (n k:Nat) (la:List AOper),k+n=ops.size->zb (zeS S nt ops draw) (ops.toList.drop k)=some la->Match S nt draw ops (List.range' k n) la
 | 0,k,la,hk,h=>by
  rw[List.drop_eq_nil_of_le (by simp;omega)] at h;simp only[zb,Option.some.injEq] at h;subst h;simp[List.range',Match]
 | n+1,k,la,hk,h=>by
  have hlt:k < ops.toList.length:=by simp;omega
  rw[List.drop_eq_getElem_cons hlt] at h;simp only[zb] at h;split at h
  ·rename_i a la' ha hla;cases h;rw[List.range'_succ];exact ⟨⟨ops[k]'(by simpa using hlt),by simp,by simpa using ha⟩,zcq n (k+1) la' (by omega) hla⟩
  ·cases h
def z7:ACode->Bool
 | .region _ d => !d
 | .seq a b=>z7 a && z7 b
 | .cond _ a b=>z7 a && z7 b
 | .block _ b=>z7 b
 | .loop b=>z7 b
 | _=>true
def LoopWp (P:Program) (c:Code) (Q:Exit->Act->World->Prop) (a:Act) (w:World):Prop :=
 ∀ (b:Frame) (k:List Item) (cs:List Frame),∃ e a' w',Q e a' w'∧Arrives P (lone (b.at a (.code c :: .inLoop c :: k)) cs w) b k cs e a' w'
def Stm (P:Program) (c:Code) (Q:Exit->Act->World->Prop) (a:Act) (w:World):Prop :=
 match c with
 | .loop b=>LoopWp P b Q a w
 | c=>c.wp P Q a w
theorem Stm.wp {P:Program} {c:Code} {Q:Exit->Act->World->Prop} {a:Act} {w:World} (h:Stm P c Q a w):c.wp P Q a w:=by
 cases c with
 | loop b =>intro fr k cs;obtain ⟨e,a',w',hq,harr⟩:=h fr k cs;exact ⟨e,a',w',hq,.of_steps (.one step_loop) harr⟩
 | _=>exact h
def jT (S:Seat):Prop:=∀ (A0:Nat->Prop) (O:Hnd) (w0:World) (nt:Nat) (ops:Array Oper) (la:List AOper) (id:Nat) (st st':ASt) (A:Nat->Prop) (σ:Nat->Option Nat) (w:World) (tm:Array Value) (Q:Exit->Act->World->Prop),
 zb (zeS S nt ops true) ops.toList=some la->la.all dstOk=true->S.P.follows .mixedOrders=true->zeH la=true->OpsR (za S) true (ordered la) st st'->wX S A0 O w0 A σ w st tm->tm.size=nt ->
 (∀ w' A' σ' tm',wX S A0 O w0 A' σ' w' st' tm'->tm'.size=nt->Q .normal ⟨tm',[]⟩ w')->(Code.region id ops true).wp S.P Q ⟨tm,[]⟩ w
theorem Stm.mono {P:Program} {c:Code} {Q Q':Exit->Act->World->Prop} {a:Act} {w:World} (h:Stm P c Q a w) (hq:∀ e a w,Q e a w->Q' e a w):Stm P c Q' a w:=by
 cases c with
 | loop b =>intro fr k cs;obtain ⟨e,a',w',h1,h2⟩:=h fr k cs;exact ⟨e,a',w',hq _ _ _ h1,h2⟩
 | _=>exact wp_mono h hq
theorem wO (hS:zO S) {c:ACode} {e:AExit} (hex:Ex (za S) c st e st') (hD:z7 c=true∨jT S):∀ {rc:Code},js S nt rc=some c->∀ {A:Nat->Prop} {σ:Nat->Option Nat} {w:World} {tm:Array Value},
  wX S A0 O w0 A σ w st tm->tm.size=nt->Stm S.P rc (Post S A0 O w0 nt e st') ⟨tm,[]⟩ w:=by
 induction hex with
 | skip st =>
  intro rc hc A σ w tm h hn;cases rc<;>simp[js] at hc
  case skip=>exact wp_skip ⟨rfl,rfl,hn,A,σ,h⟩
  case region=>split at hc<;>simp at hc
  all_goals (first | (split at hc<;>simp at hc;done) | skip)
 | @region ops dr st st' hr =>
  intro rc hc A σ w tm h hn;cases rc<;>simp only[js,map_eq_some_iff,reduceCtorEq,and_false,exists_false,Option.some.injEq] at hc
  case region id rops rdr =>
   split at hc
   ·rename_i l' hl;split at hc
    ·rename_i hok;cases hc;cases dr with
     | false =>refine wp_region ?_;have hm:=zcq (S:=S) (nt:=nt) (ops:=rops) (draw:=false) rops.size 0 l' (by simp) (by simpa using hl);rw[List.range_eq_range'];simp only[false_eq_true,if_false] at hr;exact ops_sound hS _ _ hm hr h hn fun w' A' σ' tm' k1 k2=>⟨rfl,rfl,k2,A',σ',k1⟩
     | true =>
      simp only[if_true] at hr;rcases hD with hD | hD
      ·simp[z7] at hD
      ·exact hD A0 O w0 nt rops l' id _ _ A σ w tm _ hl hok.1 (hok.2.resolve_left (by simp)).1 (hok.2.resolve_left (by simp)).2 hr h hn fun w' A' σ' tm' k1 k2=>⟨rfl,rfl,k2,A',σ',k1⟩
    ·cases hc
   ·cases hc
  all_goals (split at hc<;>simp at hc)
 | @seqN a b st st1 st2 e h1 h2 ih1 ih2 =>
  intro rc hc A σ w tm h hn;cases rc<;>simp only[js,map_eq_some_iff,reduceCtorEq,and_false,exists_false,Option.some.injEq] at hc
  case seq x y =>
   split at hc
   ·rename_i a' b' ha hb;cases hc;have hD1:z7 a=true∨jT S:=hD.imp (fun h=>by simp[z7] at h;exact h.1) id;have hD2:z7 b=true∨jT S:=hD.imp (fun h=>by simp[z7] at h;exact h.2) id;refine wp_seq (wp_mono (Stm.wp (ih1 hD1 ha h hn)) fun ex a' w' ⟨q1,q2,q3,A',σ',q4⟩ => ?_);obtain ⟨tm',df'⟩:=a';simp only at q2 q3 q4;subst q1;subst q2;exact Stm.wp (ih2 hD2 hb q4 q3)
   ·cases hc
  all_goals (split at hc<;>(try split at hc)<;>simp at hc)
 | @seqE a b st st1 e h1 hne ih1 =>
  intro rc hc A σ w tm h hn;cases rc<;>simp only[js,map_eq_some_iff,reduceCtorEq,and_false,exists_false,Option.some.injEq] at hc
  case seq x y =>
   split at hc
   ·rename_i a' b' ha hb;cases hc;have hD1:z7 a=true∨jT S:=hD.imp (fun h=>by simp[z7] at h;exact h.1) id;refine wp_seq (wp_mono (Stm.wp (ih1 hD1 ha h hn)) fun ex a' w' hq => ?_);obtain ⟨q1,q2⟩:=hq;subst q1;cases e with
    | norm=>exact absurd rfl hne
    | exit i=>exact ⟨rfl,q2⟩
    | ret=>exact ⟨rfl,q2⟩
   ·cases hc
  all_goals (split at hc<;>(try split at hc)<;>simp at hc)
 | @cond c a b st st' e t hcond h1 ih1 =>
  intro rc hc A σ w tm h hn;cases rc<;>simp only[js,map_eq_some_iff,reduceCtorEq,and_false,exists_false,Option.some.injEq] at hc
  case cond x y z =>
   split at hc
   ·rename_i c' a' b' hx ha hb;cases hc;obtain ⟨_,_,_,h0⟩:=id h;have g:=h0.ev (df:=[]) hx;rw[hcond] at g;have hv:=g.rel.v_inv;cases t with
    | true =>have hD1:z7 a=true∨jT S:=hD.imp (fun h=>by simp[z7] at h;exact h.1) id;exact wp_cond_true hv (Stm.wp (ih1 hD1 ha h hn))
    | false =>have hD1:z7 b=true∨jT S:=hD.imp (fun h=>by simp[z7] at h;exact h.2) id;exact wp_cond_false hv (Stm.wp (ih1 hD1 hb h hn))
   ·cases hc
  all_goals (split at hc<;>(try split at hc)<;>simp at hc)
 | @blockX i b st st' h1 ih1 =>
  intro rc hc A σ w tm h hn;cases rc<;>simp only[js,map_eq_some_iff,reduceCtorEq,and_false,exists_false,Option.some.injEq] at hc
  case block i' x =>
   obtain ⟨b',hb,he⟩:=hc;cases he;have hD1:z7 b=true∨jT S:=hD.imp (fun h=>by simpa[z7] using h) id;refine wp_block (wp_mono (Stm.wp (ih1 hD1 hb h hn)) fun ex a' w' ⟨q1,q2⟩ => ?_);subst q1;simp only[exOf,Exit.inBlock,if_true];exact ⟨rfl,q2⟩
  all_goals (split at hc<;>(try split at hc)<;>simp at hc)
 | @blockO i b st st' e h1 hne ih1 =>
  intro rc hc A σ w tm h hn;cases rc<;>simp only[js,map_eq_some_iff,reduceCtorEq,and_false,exists_false,Option.some.injEq] at hc
  case block i' x =>
   obtain ⟨b',hb,he⟩:=hc;cases he;have hD1:z7 b=true∨jT S:=hD.imp (fun h=>by simpa[z7] using h) id;refine wp_block (wp_mono (Stm.wp (ih1 hD1 hb h hn)) fun ex a' w' ⟨q1,q2⟩ => ?_);subst q1;cases e with
   | norm=>exact ⟨rfl,q2⟩
   | exit j =>have:j≠i:=fun e=>hne (by rw[e]);simp only[exOf,Exit.inBlock,if_neg this];exact ⟨rfl,q2⟩
   | ret=>exact ⟨rfl,q2⟩
  all_goals (split at hc<;>(try split at hc)<;>simp at hc)
 | @loopN b st st1 st2 e h1 h2 ih1 ih2 =>
  intro rc hc A σ w tm h hn;cases rc<;>simp only[js,map_eq_some_iff,reduceCtorEq,and_false,exists_false,Option.some.injEq] at hc
  case loop x =>
   obtain ⟨b',hb,he⟩:=hc;cases he;have hD1:z7 b=true∨jT S:=hD.imp (fun h=>by simpa[z7] using h) id;intro fr k cs;obtain ⟨ex,a',w',⟨q1,q2,q3,A',σ',q4⟩,harr⟩:=Stm.wp (ih1 hD1 hb h hn) fr (.inLoop x :: k) cs;obtain ⟨tm',df'⟩:=a';simp only at q2 q3 q4;subst q1;subst q2;have hl:Stm S.P (.loop x) _ ⟨tm',[]⟩ w':=ih2 hD (rc:=.loop x) (by simp[js,hb]) q4 q3;obtain ⟨e2,a2,w2,hq2,harr2⟩:=hl fr k cs;exact ⟨e2,a2,w2,hq2,.of_steps (Steps.trans harr (.one step_inLoop)) harr2⟩
  all_goals (split at hc<;>(try split at hc)<;>simp at hc)
 | @loopE b st st1 e h1 hne ih1 =>
  intro rc hc A σ w tm h hn;cases rc<;>simp only[js,map_eq_some_iff,reduceCtorEq,and_false,exists_false,Option.some.injEq] at hc
  case loop x =>
   obtain ⟨b',hb,he⟩:=hc;cases he;have hD1:z7 b=true∨jT S:=hD.imp (fun h=>by simpa[z7] using h) id;intro fr k cs;obtain ⟨ex,a',w',hq,harr⟩:=Stm.wp (ih1 hD1 hb h hn) fr (.inLoop x :: k) cs;obtain ⟨q1,q2⟩:=hq;subst q1;cases e with
   | norm=>exact absurd rfl hne
   | exit j=>exact ⟨_,a',w',⟨rfl,q2⟩,.pass (x:=.inLoop x) rfl (fun _ _=>.inl (by simp[exOf])) harr⟩
   | ret=>exact ⟨_,a',w',⟨rfl,q2⟩,.pass (x:=.inLoop x) rfl (fun _ _=>.inl (by simp[exOf])) harr⟩
  all_goals (split at hc<;>(try split at hc)<;>simp at hc)
 | exit id st =>
  intro rc hc A σ w tm h hn;cases rc<;>simp only[js,map_eq_some_iff,reduceCtorEq,and_false,exists_false,Option.some.injEq] at hc
  case exit i=>cases hc;exact wp_exit ⟨rfl,rfl,hn,A,σ,h⟩
  all_goals (split at hc<;>(try split at hc)<;>simp at hc)
 | ret st =>
  intro rc hc A σ w tm h hn;cases rc<;>simp only[js,map_eq_some_iff,reduceCtorEq,and_false,exists_false,Option.some.injEq] at hc
  case ret=>exact wp_ret ⟨rfl,rfl,hn,A,σ,h⟩
  all_goals (split at hc<;>(try split at hc)<;>simp at hc)
 | cv hcv h1 ih1 =>intro rc hc A σ w tm h hn;obtain ⟨w2,r2,j2,h⟩:=h;obtain ⟨A',σ',h'⟩:=hcv A0 O w2 A σ w tm h;exact ih1 hD hc ⟨w2,r2,j2,h'⟩ hn
 | cvR h1 hcv ih1 =>intro rc hc A σ w tm h hn;refine (ih1 hD hc h hn).mono ?_;rintro ex a w' ⟨q1,q2,q3,A',σ',w2,r2,j2,q4⟩;obtain ⟨A2,σ2,h'⟩:=hcv A0 O w2 A' σ' w' _ q4;exact ⟨q1,q2,q3,A2,σ2,w2,r2,j2,h'⟩
end
end
section
open Go Go.RowKit
section
variable {S:Seat} {A0:Nat->Prop} {O:Hnd} {w0:World} {A:Nat->Prop} {σ:Nat->Option Nat} {w w':World} {st st':ASt} {tm:Array Value}
theorem ziK (h:SRel S A0 O w0 A σ w st tm) {x:AV} {rv:Value} (g:Got S A σ w st x rv) {t:TypeId} {n:Option Nat} (hs:cAgg S.P t=some n) {cs:List AV} {off:Nat} (he:Ab.cellsAt st.hp x=some (cs,off)) {y:AV} (hy:zaX cs off n=some y) :
  ∃ a v,rv=.pointer (some a)∧(loadVar t a).run S.P w=.ok v w∧Got S A σ w st y v:=by
 obtain ⟨b,o0,u,e,h2,h3⟩:=h.cellsAt g he;cases n with
 | none =>
  simp only[zaX] at hy;split at hy
  ·rename_i a hx;split at hy
   ·cases hy;have hi:off < cs.length:=(List.getElem?_eq_some_iff.1 hx).1;exact ⟨_,u off,e,by simp[loadVar,zcV hs,h2 off hi],h3 _ _ hx⟩
   ·cases hy
  ·cases hy
 | some n =>
  obtain ⟨k1,i,k2,rfl,k3⟩:=zcU hs w;simp only[zaX] at hy;split at hy
  ·rename_i hle;cases hy;have hl:=run_loadCells (P:=S.P) w ⟨b,o0+off,none⟩ i.size (fun j=>u (off+j)) (fun j hj=>by rw[Addr.add_lit,Nat.add_assoc];exact h2 (off+j) (by omega));refine ⟨_,.agg ((List.range i.size).map fun j=>u (off+j)).toArray,e,by simp[loadVar,k1,Go.sizeOf,typeInfo,k2,hl],.agg (by simp;omega) fun j a hj => ?_,fun s hs => ?_⟩
   ·have hj':j < i.size:=by have:=(List.getElem?_eq_some_iff.1 hj).1;simp at this;omega
    rw[List.getElem?_take_of_lt hj',List.getElem?_drop] at hj;have:=(h3 _ _ hj).rel;simpa[Array.getD,hj'] using this
   ·rw[AV.refs] at hs;have hs':=zef hs;rw[ze] at hs';obtain ⟨a,ha,hsa⟩:=hs';obtain ⟨j,hj⟩:=List.mem_iff_getElem?.1 ha;exact (h3 j a hj).dang s hsa
  ·cases hy
def zfv (tm:Array Value):ResultVar->Sem Value
 | .tmp t=>pure (tm.getD t undef)
 | .cell a t=>do loadVar t (← asAddr (tm.getD a undef))
theorem resVal_ok (h:SRel S A0 O w0 A σ w st tm) {r:ResultVar} {a:ARes} (hc:cRes S.P r=some a) {y:AV} (hy:jZ st a=some y):∃ v,(zfv tm r).run S.P w=.ok v w∧Got S A σ w st y v:=by
 cases r with
 | tmp t =>simp only[cRes,Option.some.injEq] at hc;subst hc;simp only[jZ,Option.some.injEq] at hy;subst hy;exact ⟨_,by simp[zfv],h.fr t,h.dang t⟩
 | cell t ty =>
  simp only[cRes,map_eq_some_iff] at hc;obtain ⟨n,hn,rfl⟩:=hc;simp only[jZ] at hy;split at hy
  ·rename_i cs off he;obtain ⟨a,v,e,hr,hg⟩:=ziK h ⟨h.fr t,h.dang t⟩ hn he hy;exact ⟨v,by simp[zfv,e,asAddr,hr],hg⟩
  ·cases hy
theorem resL_ok (h:SRel S A0 O w0 A σ w st tm):∀ (l:List ResultVar) (res:List ARes) (ys:List AV),zb (cRes S.P) l=some res->zb (jZ st) res=some ys ->
  ∃ vs:List Value,(l.mapM (zfv tm)).run S.P w=.ok vs w∧ys.length=vs.length∧∀ (i:Nat) (y:AV),ys[i]? = some y->Got S A σ w st y (vs.getD i undef)
 | [],res,ys,h1,h2=>by
  simp only[zb,Option.some.injEq] at h1;subst h1;simp only[zb,Option.some.injEq] at h2;subst h2;exact ⟨[],by simp,rfl,by simp⟩
 | r :: l,res,ys,h1,h2=>by
  simp only[zb] at h1;split at h1
  ·rename_i a res' ha hres;simp only[Option.some.injEq] at h1;subst h1;simp only[zb] at h2;split at h2
   ·rename_i y ys' hy hys;simp only[Option.some.injEq] at h2;subst h2;obtain ⟨v,k1,k2⟩:=resVal_ok h ha hy;obtain ⟨vs,q1,q2,q3⟩:=resL_ok h l res' ys' hres hys;refine ⟨v :: vs,by simp[List.mapM_cons,k1,q1],by simp[q2],fun i x hx => ?_⟩;cases i with
    | zero=>simp at hx;subst hx;exact k2
    | succ i=>simp at hx;simpa using q3 i x hx
   ·cases h2
  ·cases h1
theorem zdD (h:SRel S A0 O w0 A σ w st tm) {fn:Func} {res:List ARes} {ys:List AV} (h1:zb (cRes S.P) fn.results.toList=some res) (h2:zb (jZ st) res=some ys) :
  ∃ vs:Array Value,(results fn tm).run S.P w=.ok (if h:vs.size=1 then vs[0] else .tuple vs) w∧ys.length=vs.size∧∀ (i:Nat) (y:AV),ys[i]? = some y->Got S A σ w st y (vs.getD i undef):=by
 obtain ⟨vs,k1,k2,k3⟩:=resL_ok h _ _ _ h1 h2;refine ⟨vs.toArray, ?_,by simpa using k2,fun i y hy=>by simpa[getD_eq_getD_getElem?] using k3 i y hy⟩
 have e2:results fn tm=(do let vs ← fn.results.mapM (zfv tm);pure (if h:vs.size=1 then vs[0] else .tuple vs)) :=
  congrArg (fun (f:ResultVar->Sem Value)=>(do let vs ← fn.results.mapM f;pure (if h:vs.size=1 then vs[0] else Value.tuple vs):Sem Value)) (funext fun x=>by cases x<;>rfl)
 rw[e2,Array.mapM_eq_mapM_toList];simp[k1]
def noHnd:Hnd:=⟨fun _=>False,fun _=>none⟩
theorem retR_of {β:Nat->Option Nat} (hβ:∀ i b,β i=some b->w.heap.size<=b∧b < w'.heap.size) (hinj:∀ i j b,β i=some b->β j=some b->i=j) {ys:List AV} {vs:Array Value} (hl:ys.length=vs.size)
  (ha:∀ (i:Nat) (x:AV),ys[i]? = some x->yY S (qv A β w w') w' (β i) x (vs.getD i undef)):zbl S A w w' (qt ys) (if h:vs.size=1 then vs[0] else .tuple vs):=by
 by_cases h1:vs.size=1
 ·rw[dif_pos h1];have e:vs[0]=vs.getD 0 undef:=by simp[Array.getD,h1]
  match ys,hl,ha with
  | [x],_,ha =>
   have hx:=ha 0 x rfl;rw[← e] at hx;rw[show qt [x]=x from rfl];by_cases ht:∃ rs,x=.tup rs
   ·obtain ⟨rs,rfl⟩:=ht;have hx2:VR0 S (qv A β w w') w' (.tup rs) vs[0]:=hx.2;have hx3:=hx2.mono (A':=qv A (fun _=>none) w w') (fun b hb=>⟨hb.1,hb.2.1,by simp⟩) (fun _ _=>rfl);generalize vs[0]=v at hx3;refine ⟨fun _=>none,by simp,by simp, ?_⟩;cases hx3 with
    | tup q1 q2=>exact ⟨_,rfl,q1,fun i y hy=>qW (q2 i y hy)⟩
   ·refine ⟨β,hβ,hinj, ?_⟩;cases x with
    | tup rs=>exact absurd ⟨rs,rfl⟩ ht
    | _=>exact hx
  | [],hl,_=>simp at hl;omega
  | _ :: _ :: _,hl,_=>simp at hl;omega
 ·rw[dif_neg h1];have e:qt ys=.tup ys:=by
   match ys,hl with
   | [],_=>rfl
   | [x],hl=>simp at hl;omega
   | _ :: _ :: _,_=>rfl
  rw[e];exact ⟨β,hβ,hinj,vs,rfl,hl,ha⟩
theorem zhO:∀ (rs:List AV) (i j:Nat) (x y:AV) (s:Nat),qh (AV.refsL rs)=true->rs[i]? = some x->rs[j]? = some y->s∈x.refs->s∈y.refs->i=j:=by
 have app:∀ (a b:List Nat),qh (a++b)=true->qh b=true∧∀ s,s∈a->s∈b->False:=by
  intro a b
  induction a with
  | nil=>intro h;exact ⟨h,by simp⟩
  | cons x a ih =>
   intro h;simp only[List.cons_append,qh,and_eq_true,not_eq_true',contains_eq_mem,decide_eq_false_iff_not,mem_append] at h;obtain ⟨k1,k2⟩:=ih h.2;refine ⟨k1,fun s hs hb => ?_⟩;rcases mem_cons.1 hs with rfl | hs
   ·exact h.1 (.inr hb)
   ·exact k2 s hs hb
 intro rs
 induction rs with
 | nil=>intro i j x y s _ h;simp at h
 | cons a rs ih =>
  intro i j x y s hn hi hj hx hy;rw[AV.refsL] at hn;obtain ⟨k1,k2⟩:=app _ _ hn;cases i with
  | zero =>
   cases j with
   | zero=>rfl
   | succ j =>simp at hi hj;subst hi;exact (k2 s hx (ze.2 ⟨y,mem_of_getElem? hj,hy⟩)).elim
  | succ i =>
   cases j with
   | zero =>simp at hi hj;subst hj;exact (k2 s hy (ze.2 ⟨x,mem_of_getElem? hi,hx⟩)).elim
   | succ j =>simp at hi hj;rw[ih i j x y s k1 hi hj hx hy]
theorem zdV {Ab:Nat->Prop} {O:Hnd} {wb:World} (h:SRel S Ab O wb A0 σ w' st tm) (hA:∀ b,A0 b->(A b∨w.heap.size<=b)∧b < w'.heap.size) (hσ:∀ s b,σ s=some b->w.heap.size<=b∧b < w'.heap.size) {own:Bool} {res:List ARes} {r:AV} {outs:zdf} {fn:Func}
  (h1:zb (cRes S.P) fn.results.toList=some res) (he:qN own [] res st=some (r,outs)):outs=[]∧∃ v,(results fn tm).run S.P w'=.ok v w'∧zbl S A w w' r v:=by
 unfold qN at he;split at he
 ·rename_i rs hrs;obtain ⟨vs,k1,k2,k3⟩:=zdD h h1 hrs;cases own with
  | true =>
   simp only[if_true] at he;split at he
   ·rename_i hnd;split at he
    ·rename_i ys hys;simp only[Option.some.injEq,Prod.mk.injEq] at he;obtain ⟨rfl,rfl⟩:=he;obtain ⟨d1,d2⟩:=zy hys
     let β:Nat->Option Nat:=fun i=>match rs[i]? with | some (.lsl s z 0 n)=>(match st.hp s with | some (.arr z' es)=>if z=z'∧n=es.length∧zaR s=false then σ s else none | _=>none) | _=>none
     have hβ:∀ i b,β i=some b->∃ s x,rs[i]? = some x∧s∈x.refs∧σ s=some b:=by
      intro i b hb;simp only[β] at hb;split at hb
      ·rename_i s z n hi;split at hb
       ·split at hb
        ·exact ⟨s,_,hi,by simp[AV.refs],hb⟩
        ·cases hb
       ·cases hb
      ·cases hb
     refine ⟨rfl,_,k1,retR_of (β:=β) (fun i b hb => ?_) (fun i j b hi hj => ?_) (by omega) fun i y hy => ?_⟩
     ·obtain ⟨s,x,_,_,hs⟩:=hβ i b hb;exact hσ s b hs
     ·obtain ⟨s,x,q1,q2,q3⟩:=hβ i b hi;obtain ⟨s',x',q1',q2',q3'⟩:=hβ j b hj;obtain rfl:=h.inj s s' b q3 q3';exact zhO rs i j x x' s hnd.1 q1 q1' q2 q2'
     ·have hAft:∀ b,A0 b->qv A β w w' b:=fun b hb=>⟨(hA b hb).1,(hA b hb).2,fun i e=>by
       obtain ⟨s,x,_,_,hs⟩:=hβ i b e;exact (h.dom s b hs).2.2.1 hb⟩
      obtain ⟨x0,hx0,hx1⟩:=d2 i y hy;have hg:=k3 i x0 hx0;have plain:β i=none->x0.refs=[]->y=x0->yY S (qv A β w w') w' (β i) y (vs.getD i undef):=(by rintro hb hr rfl;rw[hb];exact qW ((hg.rel.to0 hr).mono hAft fun _ _=>rfl));have other:(∀ s z n,x0≠.lsl s z 0 n)->yY S (qv A β w w') w' (β i) y (vs.getD i undef):=by
       intro hne;have:(if x0.refs.isEmpty then some x0 else none)=some y:=by
        cases x0 with
        | lsl s z off n =>
         cases off with
         | zero=>exact absurd rfl (hne _ _ _)
         | succ off=>exact hx1
        | _=>exact hx1
       split at this
       ·rename_i hr;have e:=Option.some.inj this;refine plain ?_ (by simpa using hr) e.symm;clear hx1 this e;cases x0 with
        | lsl s z off n=>simp[AV.refs] at hr
        | _=>simp[β,hx0]
       ·cases this
      by_cases hl:∃ s z n,x0=.lsl s z 0 n
      ·obtain ⟨s,z,n,rfl⟩:=hl;simp only[yA] at hx1;split at hx1
       ·rename_i z' es hb;split at hx1
        ·rename_i hcond;cases hx1;obtain ⟨rfl,rfl,hs1000⟩:=hcond;have hβi:β i=σ s:=by simp[β,hx0,hb,hs1000]
         rw[hβi];obtain ⟨b0,bb⟩:=h.hp s _ hb;refine (show qE S _ w' (σ s) z es (vs.getD i undef) from ⟨b0, ?_⟩);rcases hg.rel.lsl_inv with ⟨_,q2,q3,q4⟩ | ⟨b,o,cap,cs,el,e1,q0,q1,q2,q3,q4,q5⟩
         ·exact .inl ⟨q3,List.length_eq_zero_iff.1 q2,by rw[q4]⟩
         ·rcases bb with ⟨m1,m2⟩ | ⟨b',cs',el',m1,m2,m3,m4,m5⟩
          ·rw[m1] at q0;cases q0
          ·obtain rfl:b'=b:=Option.some.inj (m1.symm.trans q0);rw[q3] at m2;cases m2;have ho:o=0:=by have:=q2 (.inr rfl);omega
           subst ho;exact .inr ⟨b',cap,cs,el,q0,e1,q1,q5,q3,by simpa using q4,m4,fun i' e' c x h1 h2=>(m5 i' e' c x h1 h2).mono hAft fun _ _=>rfl⟩
        ·cases hx1
       ·cases hx1
      ·exact other fun s z n e=>hl ⟨s,z,n,e⟩
    ·cases he
   ·cases he
  | false =>
   simp only[false_eq_true,if_false,if_true] at he;split at he
   ·rename_i ys hys;simp only[Option.some.injEq,Prod.mk.injEq] at he;obtain ⟨rfl,rfl⟩:=he;obtain ⟨d1,d2⟩:=zy hys;refine ⟨rfl,_,k1,retR_of (β:=fun _=>none) (by simp) (by simp) (by omega) fun i y hy => ?_⟩;obtain ⟨x0,hx0,hx1⟩:=d2 i y hy;exact qW (wj h (fun b hb=>⟨(hA b hb).1,(hA b hb).2,by simp⟩) (k3 i x0 hx0).rel hx1 fun s b hs _=>⟨.inr (hσ s b hs).1,(hσ s b hs).2,by simp⟩)
   ·cases he
 ·cases he
theorem export_ok (h:SRel S A noHnd w A0 σ w' st tm) {own:Bool} {res:List ARes} {r:AV} {outs:zdf} {fn:Func} (h1:zb (cRes S.P) fn.results.toList=some res) (he:qN own [] res st=some (r,outs)) :
  outs=[]∧∃ v,(results fn tm).run S.P w'=.ok v w'∧zbl S A w w' r v :=
 zdV h (fun b hb=>⟨(h.Asub b hb).imp id fun e=>e.resolve_right (fun e=>e),h.Alt b hb⟩) (fun s b hs=>⟨(h.dom s b hs).2.2.2.resolve_right (fun e=>e),(h.dom s b hs).2.1⟩) h1 he
theorem zap:∀ (i:Nat) (args:List AV),qV [] i args=true->∀ x∈args,zp x=false
 | _,[],_,_,hx=>by cases hx
 | i,a :: r,h,x,hx=>by
  simp only[qV,zx,contains_nil,Bool.or_self,Bool.and_false,and_eq_true,beq_iff_eq] at h;rcases mem_cons.1 hx with rfl | hx
  ·exact h.1
  ·exact zap (i+1) r h.2 x hx
theorem je (muts:List Nat):∀ (i:Nat) (args:List AV),(∀ x∈args,zp x=false)->zS muts i args=fun _=>none
 | _,[],_=>rfl
 | i,a :: r,h=>by
  have ih:=je muts (i+1) r fun x hx=>h x (mem_cons_of_mem _ hx);have ha:=h a mem_cons_self;cases a with
  | own z es=>simp[zp] at ha
  | _=>simp only[zS,ih]
theorem zcB (muts:List Nat):∀ (i:Nat) (args:List AV) (k:Nat),(∀ x∈args,zp x=false)->jo muts i args k=.bot∨(i<=k∧args[k - i]? = some (jo muts i args k))
 | _,[],_,_=>.inl rfl
 | i,a :: r,k,h=>by
  have ih:=zcB muts (i+1) r k fun x hx=>h x (mem_cons_of_mem _ hx);have ha:=h a mem_cons_self;simp only[jo,upd];split
  ·rename_i e;subst e;refine .inr ⟨Nat.le_refl _, ?_⟩;simp only[Nat.sub_self,List.getElem?_cons_zero];cases a with
   | own z es=>simp[zp] at ha
   | _=>rfl
  ·rcases ih with ih | ⟨h1,h2⟩
   ·exact .inl ih
   ·refine .inr ⟨by omega, ?_⟩;rw[show k - i=(k - (i+1))+1 by omega,List.getElem?_cons_succ];exact h2
theorem zia {args:List AV} {vs:Array Value} (hf:qV [] 0 args=true) (hl:vs.size=args.length) (hA:(∀ b,A b->b < w.heap.size)∧Inv S w) (ha:∀ (i:Nat) (x:AV),args[i]? = some x->VR0 S A w x (vs.getD i undef)) (m:Nat) :
  SRel S A noHnd w A (fun _=>none) w (enter [] args) (vs++Array.replicate m undef):=by
 have ho:=zap 0 args hf;have hh:(enter [] args).hp=fun _=>none:=by simp only[enter];exact je [] 0 args ho
 have hget:∀ k,(enter [] args).fr k=.bot∨VR0 S A w ((enter [] args).fr k) ((vs++Array.replicate m undef).getD k undef):=by
  intro k;rcases zcB [] 0 args k ho with h | ⟨_,h⟩
  ·exact .inl h
  ·refine .inr ?_;simp only[Nat.sub_zero] at h;have:=ha k _ h;have hk:k < vs.size:=by rw[hl];exact (List.getElem?_eq_some_iff.1 h).1
   have e:(vs++Array.replicate m undef).getD k undef=vs.getD k undef:=(by rw[getD_eq_getD_getElem?,Array.getElem?_append_left hk,getD_eq_getD_getElem?]);rw[e];exact this
 refine ⟨fun k => ?_,fun s blk hb => ?_,fun k s hs => ?_,fun s cs hs => ?_,fun s b hs => ?_,fun s s' b hs => ?_,hA.1,fun b hb=>.inl hb,.refl _ _,(fun s e he=>by cases he),fun b hb=>hb.elim,fun _ _ h=>h,hA.2⟩
 ·rcases hget k with h | h
  ·rw[h];exact .of0 (.bot _)
  ·exact .of0 h
 ·rw[hh] at hb;cases hb
 ·rcases hget k with h | h
  ·rw[h] at hs;simp[AV.refs] at hs
  ·exact (jx h s hs).elim
 ·rw[hh] at hs;cases hs
 ·cases hs
 ·cases hs
theorem zg5 (hS:zO S) {g id:Nat} {fn:Func} {f:AFunc} (hg:S.P.funcs[g]? = some fn) (hc:zan S id fn=some f) (hmut:zaO id S.muts=[]) (hD:z7 f.body=true∨jT S) {args:List AV} {r:AV} {outs:zdf}
  (hb:BodyR (za S) f args r outs):outs=[]∧zda S g args r:=by
 unfold zan at hc;split at hc
 ·rename_i body res hbody hres;split at hc
  ·rename_i hcond;have hnt:=hcond.1;cases hc;obtain ⟨hlen,hfit,e,st',hex,hend,hexp⟩:=hb;simp only at hlen hfit hex hexp hD;rw[hmut] at hfit hexp hex;obtain ⟨c,hfb,hcc⟩:∃ c,fn.body=some c∧js S fn.ntmps c=some body:=by
    cases hfb:fn.body with
    | none=>simp[hfb] at hbody
    | some c=>simp[hfb] at hbody;exact ⟨c,rfl,hbody⟩
   have main:∀ (A:Nat->Prop) (w:World) (vs:Array Value),vs.size=args.length->((∀ b,A b->b < w.heap.size)∧Inv S w)->JR S A (fun _=>False) w->(∀ (i:Nat) (x:AV),args[i]? = some x->VR0 S A w x (vs.getD i undef)) ->
     c.wp S.P (fun ex a w'=>(ex=.normal∨ex=.ret)∧a.defers=[]∧∃ A' σ',wX S A noHnd w A' σ' w' st' a.tmps) { tmps:=vs++Array.replicate (fn.ntmps - vs.size) undef,defers:=[] } w:=by
    intro A w vs hl hA hJ ha;refine wp_mono (Stm.wp (wO hS hex hD hcc ⟨w,.refl S w,hJ,zia hfit hl hA ha _⟩ (by simp;omega))) ?_;rintro ex a w' ⟨q1,q2,q3,q4⟩;refine ⟨?_,q2,q4⟩;subst q1;rcases hend with rfl | rfl
    ·exact .inl rfl
    ·exact .inr rfl
   have hout:outs=[]:=by
    unfold qN at hexp;split at hexp
    ·split at hexp
     ·split at hexp
      ·split at hexp
       ·simp only[Option.some.injEq,Prod.mk.injEq] at hexp;exact hexp.2.symm
       ·cases hexp
      ·cases hexp
     ·simp only[if_true] at hexp;split at hexp
      ·simp only[Option.some.injEq,Prod.mk.injEq] at hexp;exact hexp.2.symm
      ·cases hexp
    ·cases hexp
   refine ⟨hout,fun A w vs hl hA hJ ha => ?_⟩;refine calls_of_wp hg hfb (wp_mono (main A w vs hl hA hJ ha) ?_);rintro ex a w' ⟨q1,q2,A',σ',w2,r2,j2,q3⟩;obtain ⟨_,v,k1,k2⟩:=export_ok q3 hres hexp;have hkp:=r2.keep q3.keep;have hkp:KeepO S.jg w w':=⟨hkp.os,hkp.tape,hkp.output,hkp.size,fun k hk hn=>hkp.block k hk fun e=>e.elim (fun e=>e) hn⟩;have hj:=(q3.jpreA j2).jn;have k2:=k2.same r2.size.symm;rcases q1 with rfl | rfl
   ·exact ⟨q2,v,k1,v,rfl,hkp,hj,k2⟩
   ·exact ⟨q2,v,k1,v,rfl,hkp,hj,k2⟩
  ·cases hc
 ·cases hc
def qT (muts:List Nat) (ι:Nat->Option Nat):Nat->List AV->Nat->Option Nat
 | _,[]=>fun _=>none
 | i,x :: r=>match x with | .own _ _=>upd (qT muts ι (i+1) r) (qP muts i) (ι i) | _=>qT muts ι (i+1) r
theorem zdz {muts:List Nat} {i j:Nat} (hi:i < 1000) (hj:j < 1000) (h:qP muts i=qP muts j):i=j:=by simp only[qP] at h;split at h<;>split at h<;>omega
theorem ziG {muts:List Nat} {i:Nat} (hi:i < 1000):zaR (qP muts i)=muts.contains i:=by
 simp only[qP];split
 ·rename_i h;rw[h,zaR,and_eq_true,Nat.ble_eq,blt_eq];omega
 ·rename_i h;have h':muts.contains i=false:=by simpa using h
  rw[h',zaR,Bool.and_eq_false_iff];right;rw[← Bool.not_eq_true,blt_eq];omega
theorem jQ (muts:List Nat) (ι:Nat->Option Nat):∀ (i:Nat) (args:List AV) (s:Nat),(zS muts i args s=none∧qT muts ι i args s=none) ∨
  ∃ j z es,args[j]? = some (.own z es)∧s=qP muts (i+j)∧zS muts i args s=some (.arr z es)∧qT muts ι i args s=ι (i+j)
 | _,[],_=>.inl ⟨rfl,rfl⟩
 | i,a :: r,s=>by
  have ih:=jQ muts ι (i+1) r s
  have other:zS muts i (a :: r) s=zS muts (i+1) r s->qT muts ι i (a :: r) s=qT muts ι (i+1) r s->(zS muts i (a :: r) s=none∧qT muts ι i (a :: r) s=none) ∨
    ∃ j z es,(a :: r)[j]? = some (.own z es)∧s=qP muts (i+j)∧zS muts i (a :: r) s=some (.arr z es)∧qT muts ι i (a :: r) s=ι (i+j):=by
   intro e1 e2;rw[e1,e2];rcases ih with h | ⟨j,z,es,h1,h2,h3,h4⟩
   ·exact .inl h
   ·exact .inr ⟨j+1,z,es,by simpa using h1,by rw[h2];congr 1;omega,h3,by rw[h4];congr 1;omega⟩
  cases a with
  | own z es =>
   by_cases e:s=qP muts i
   ·subst e;exact .inr ⟨0,z,es,rfl,rfl,by simp only[zS,qo],by simp only[qT,qo];rfl⟩
   ·exact other (by simp only[zS,zbq _ _ _ e]) (by simp only[qT,zbq _ _ _ e])
  | _=>exact other rfl rfl
theorem zcA (muts:List Nat):∀ (i:Nat) (args:List AV) (j z:Nat) (es:List (List AV)),args[j]? = some (.own z es)->zS muts i args (qP muts (i+j))≠none
 | _,[],_,_,_,h=>by simp at h
 | i,a :: r,j,z,es,h=>by
  cases j with
  | zero =>simp at h;subst h;simp[zS,upd]
  | succ j =>
   have ih:=zcA muts (i+1) r j z es (by simpa using h);rw[show i+1+j=i+(j+1) by omega] at ih;cases a with
   | own z' es' =>
    simp only[zS,upd];split
    ·simp
    ·exact ih
   | _=>exact ih
theorem zcC (muts:List Nat):∀ (i:Nat) (args:List AV) (k:Nat),jo muts i args k=.bot∨∃ x,i<=k∧args[k - i]? = some x∧jo muts i args k=(match x with | .own z es=>.lsl (qP muts k) z 0 (List.length es) | x=>x)
 | _,[],_=>.inl rfl
 | i,a :: r,k=>by
  have ih:=zcC muts (i+1) r k;simp only[jo,upd];split
  ·rename_i e;subst e;exact .inr ⟨a,Nat.le_refl _,by simp,rfl⟩
  ·rcases ih with ih | ⟨x,h1,h2,h3⟩
   ·exact .inl ih
   ·refine .inr ⟨x,by omega, ?_,h3⟩;rw[show k - i=(k - (i+1))+1 by omega,List.getElem?_cons_succ];exact h2
def zbK (muts:List Nat) (args:List AV) (ι:Nat->Option Nat) (w:World):Hnd :=
 ⟨zgo ι,fun s=>if zaR s=true then (match zS muts 0 args s,qT muts ι 0 args s with
  | some (.arr z es),some b=>(match w.heap[b]? with | some (.cells cs el _)=>some ⟨some b,z,es.length,el,cs.size⟩ | _=>some ⟨some b,z,es.length,0,0⟩)
  | some (.arr z es),none=>some ⟨none,z,es.length,0,0⟩
  | _,_=>none) else none⟩
theorem zba {muts:List Nat} {ι:Nat->Option Nat}:∀ (i:Nat) (args:List AV) (s b:Nat),qT muts ι i args s=some b->∃ j,ι j=some b
 | _,[],s,b,h=>by cases h
 | i,x :: r,s,b,h=>by
  unfold qT at h;split at h
  ·unfold upd at h;split at h
   ·exact ⟨_,h⟩
   ·exact zba (i+1) r s b h
  ·exact zba (i+1) r s b h
theorem zi0 {muts:List Nat} {args:List AV} {ι:Nat->Option Nat} {w2:World} (h:∀ i b,ι i=some b->w2.heap[b]? = w.heap[b]?):zbK muts args ι w2=zbK muts args ι w:=by
 unfold zbK;congr 1;funext s;split
 ·cases h1:zS muts 0 args s with
  | none=>rfl
  | some blk =>
   cases blk with
   | var cs=>rfl
   | arr z es =>
    cases h2:qT muts ι 0 args s with
    | none=>rfl
    | some b =>obtain ⟨j,hj⟩:=zba 0 args s b h2;simp only[h j b hj]
 ·rfl
theorem yY.same {w2:World} {b?:Option Nat} {x:AV} {v:Value} (h:yY S A w b? x v) (hA:∀ b,A b->w2.heap[b]? = w.heap[b]?) (hb:∀ b,b? = some b->w2.heap[b]? = w.heap[b]?):yY S A w2 b? x v:=by
 by_cases ho:∃ z es,x=.own z es
 ·obtain ⟨z,es,rfl⟩:=ho;obtain ⟨h0,h1 | ⟨b,cap,us,el,h1,h2,h3,h4,h5,h6,h7,h8⟩⟩:=h
  ·exact ⟨h0,.inl h1⟩
  ·exact ⟨h0,.inr ⟨b,cap,us,el,h1,h2,h3,h4,by rw[hb b h1];exact h5,h6,h7,fun i e c x hi hc=>(h8 i e c x hi hc).mono (fun _ h=>h) hA⟩⟩
 ·obtain ⟨k1,k2⟩:=wR h (by cases x<;>first | rfl | exact absurd ⟨_,_,rfl⟩ ho)
  rw[k1];exact qW (k2.mono (fun _ h=>h) hA)
theorem enterM_ok {muts:List Nat} {args:List AV} {vs:Array Value} {ι:Nat->Option Nat} (hl:vs.size=args.length) (hn:args.length<=1000) (hA:(∀ b,A b->b < w.heap.size)∧Inv S w)
  (hι:(∀ i b,ι i=some b->i < args.length∧b < w.heap.size∧¬ A b∧∀ p∈S.globB,p≠b)∧∀ i j b,ι i=some b->ι j=some b->i=j)
  (ha:∀ (i:Nat) (x:AV),args[i]? = some x->yY S A w (ι i) x (vs.getD i undef)) (m:Nat) :
  SRel S A (zbK muts args ι w) w A (qT muts ι 0 args) w (enter muts args) (vs++Array.replicate m undef):=by
 have hlt:∀ (j:Nat) (x:AV),args[j]? = some x->j < 1000:=fun j x h=>by have:=(List.getElem?_eq_some_iff.1 h).1;omega
 have hown:∀ (j z:Nat) (es:List (List AV)),args[j]? = some (.own z es)->zS muts 0 args (qP muts j)=some (.arr z es)∧qT muts ι 0 args (qP muts j)=ι j:=by
  intro j z es h;have h0:=zcA muts 0 args j z es h;rw[zero_add] at h0;rcases jQ muts ι 0 args (qP muts j) with ⟨h1,_⟩ | ⟨j',z',es',h1,h2,h3,h4⟩
  ·exact absurd h1 h0
  ·rw[zero_add] at h2 h4;obtain rfl:=zdz (hlt j _ h) (hlt j' _ h1) h2;rw[h] at h1;cases h1;exact ⟨h3,h4⟩
 have hget:∀ k,(enter muts args).fr k=.bot∨Got S A (qT muts ι 0 args) w (enter muts args) ((enter muts args).fr k) ((vs++Array.replicate m undef).getD k undef):=by
  intro k;rcases zcC muts 0 args k with h | ⟨x,_,h1,h2⟩
  ·exact .inl h
  ·refine .inr ?_;rw[Nat.sub_zero] at h1;have hk:k < vs.size:=by rw[hl];exact (List.getElem?_eq_some_iff.1 h1).1
   have e:(vs++Array.replicate m undef).getD k undef=vs.getD k undef:=(by rw[getD_eq_getD_getElem?,Array.getElem?_append_left hk,getD_eq_getD_getElem?]);rw[e];have hx:=ha k x h1;show Got S A _ w _ (jo muts 0 args k) _;rw[h2];by_cases ho:∃ z es,x=.own z es
   ·obtain ⟨z,es,rfl⟩:=ho;obtain ⟨k1,k2⟩:=hown k z es h1;refine ⟨(jD (show qE S A w (ι k) z es _ from hx) k2).1,fun s hs => ?_⟩;rw[AV.refs,List.mem_singleton] at hs;subst hs;show zS muts 0 args _≠none;rw[k1];simp
   ·have hx0:=wR hx (by cases x<;>first | rfl | exact absurd ⟨_,_,rfl⟩ ho)
    clear h2 hx h1;cases x with
    | own z es=>exact absurd ⟨_,_,rfl⟩ ho
    | _=>exact ⟨.of0 hx0.2,fun s hs=>(jx hx0.2 s hs).elim⟩
 have hblk:∀ s blk,(enter muts args).hp s=some blk->∃ j z es,args[j]? = some (.own z es)∧s=qP muts j∧blk=.arr z es∧qT muts ι 0 args s=ι j:=by
  intro s blk hb;have hb:zS muts 0 args s=some blk:=hb;rcases jQ muts ι 0 args s with ⟨h1,_⟩ | ⟨j',z',es',h1,h2,h3,h4⟩
  ·rw[h1] at hb;cases hb
  ·rw[h3] at hb;cases hb;rw[zero_add] at h2 h4;exact ⟨j',z',es',h1,h2,rfl,h4⟩
 have hsig:∀ s b,qT muts ι 0 args s=some b->∃ j z es,args[j]? = some (.own z es)∧s=qP muts j∧zS muts 0 args s=some (.arr z es)∧ι j=some b:=by
  intro s b hs;rcases jQ muts ι 0 args s with ⟨_,h1⟩ | ⟨j',z',es',h1,h2,h3,h4⟩
  ·rw[h1] at hs;cases hs
  ·rw[zero_add] at h2 h4;exact ⟨j',z',es',h1,h2,h3,h4 ▸ hs⟩
 refine ⟨fun k => ?_,fun s blk hb => ?_,fun k s hs => ?_,fun s cs hs => ?_,fun s b hs => ?_,fun s s' b h1 h2 => ?_,hA.1,fun b hb=>.inl hb,.refl _ _,fun s e he => ?_,fun b ⟨i,hi⟩=>(hι.1 i b hi).2.1,fun p hp ⟨i,hi⟩=>(hι.1 i _ hi).2.2.2 p hp rfl,hA.2⟩
 ·rcases hget k with h | h
  ·rw[h];exact .of0 (.bot _)
  ·exact h.rel
 ·obtain ⟨j,z,es,h1,h2,rfl,h4⟩:=hblk s blk hb;subst h2;exact (jD (show qE S A w (ι j) z es _ from ha j _ h1) h4).2
 ·rcases hget k with h | h
  ·rw[h] at hs;simp[AV.refs] at hs
  ·exact h.dang s hs
 ·obtain ⟨_,_,_,_,_,h,_⟩:=hblk s _ hs;cases h
 ·obtain ⟨j,z,es,h1,h2,h3,h4⟩:=hsig s b hs;obtain ⟨_,q2,q3,_⟩:=hι.1 j b h4;exact ⟨by show zS muts 0 args s≠none;rw[h3];simp,q2,q3,.inr ⟨j,h4⟩⟩
 ·obtain ⟨j,_,_,_,e1,_,h4⟩:=hsig s b h1;obtain ⟨j',_,_,_,e1',_,h4'⟩:=hsig s' b h2;rw[e1,e1',hι.2 j j' b h4 h4']
 ·simp only[zbK] at he;split at he
  ·rename_i hf;split at he
   ·rename_i z es b hz hs;obtain ⟨j,z',es',h1,h2,h3,h4⟩:=hblk s _ hz;cases h3;have ho:qE S A w (ι j) z es (vs.getD j undef):=ha j _ h1;obtain ⟨_,⟨q1,_,_⟩ | ⟨b',cap,us,el,q1,_,_,_,q5,_⟩⟩:=ho
    ·rw[h4,q1] at hs;cases hs
    ·obtain rfl:b=b':=Option.some.inj ((hs.symm.trans h4).trans q1);simp only[q5,Option.some.injEq] at he;subst he;refine ⟨hf,hs,⟨es,hz,rfl⟩,fun b' hb' => ?_⟩;cases hb';exact ⟨us,q5,rfl⟩
   ·rename_i z es hz hs;simp only[Option.some.injEq] at he;subst he;exact ⟨hf,hs,⟨es,hz,rfl⟩,by simp⟩
   ·cases he
  ·cases he
theorem zdI {st:ASt} {muts:List Nat} {outs:zdf} (h:outsOf st muts=some outs) {i:Nat} {es:List (List AV)} (hi:(i,es)∈outs):muts.contains i=true∧i < 1000∧∃ z,st.hp (1000+i)=some (.arr z es):=by
 obtain ⟨h1,h2⟩:=zy h;obtain ⟨j,hj⟩:=List.mem_iff_getElem?.1 hi;obtain ⟨i0,h3,h4⟩:=h2 j _ hj;have hm:=mem_of_getElem? h3;simp only[yV,mem_filter,blt_eq] at hm;split at h4
 ·rename_i z es' hz;simp only[Option.some.injEq,Prod.mk.injEq] at h4;obtain ⟨rfl,rfl⟩:=h4;exact ⟨by simpa[contains_eq_mem] using hm.1,hm.2,z,hz⟩
 ·cases h4
theorem zi4 {muts:List Nat} {args:List AV} {vs:Array Value} {ι:Nat->Option Nat} (hl:vs.size=args.length) (hn:args.length<=1000) (hfit:qV muts 0 args=true)
  (hι:(∀ i b,ι i=some b->i < args.length∧b < w.heap.size∧¬ A b∧∀ p∈S.globB,p≠b)∧∀ i j b,ι i=some b->ι j=some b->i=j)
  (ha:∀ (i:Nat) (x:AV),args[i]? = some x->yY S A w (ι i) x (vs.getD i undef))
  (h:SRel S A (zbK muts args ι w) w A0 σ w' st tm) {res:List ARes} {r:AV} {outs:zdf} {fn:Func} (h1:zb (cRes S.P) fn.results.toList=some res) (hm:muts≠[]) (he:qN false muts res st=some (r,outs)) :
  ∃ v,(results fn tm).run S.P w'=.ok v w'∧RetM S A (ym ι outs) (zgu S args ι vs w w' outs) w w' r v:=by
 unfold qN at he;split at he
 ·rename_i rs hrs;simp only[false_eq_true,if_false,if_neg hm] at he;split at he
  ·rename_i hnd;split at he
   ·rename_i ys outs' hys houts;simp only[Option.some.injEq,Prod.mk.injEq] at he;obtain ⟨rfl,rfl⟩:=he;obtain ⟨us,k1,k2,k3⟩:=zdD h h1 hrs;obtain ⟨d1,d2⟩:=zy hys
    -- what stays the caller's
    have fit:∀ (i:Nat) (x:AV),args[i]? = some x->zp x=zx muts i:=by
     have:∀ (i:Nat) (l:List AV),qV muts i l=true->∀ (j:Nat) (x:AV),l[j]? = some x->zp x=zx muts (i+j):=by
      intro i l
      induction l generalizing i with
      | nil=>intro _ j x h;simp at h
      | cons a l ih =>
       intro h j x hj;simp only[qV,and_eq_true,beq_iff_eq] at h;cases j with
       | zero=>simp at hj;subst hj;simpa using h.1
       | succ j =>
        have:=ih (i+1) h.2 j x (by simpa using hj)
        rwa [show i+1+j=i+(j+1) by omega] at this
     intro i x hi;simpa using this 0 args hfit i x hi
    have kept:∀ i es,(i,es)∈outs'->i < args.length->∃ z es0 el m,args[i]? = some (.own z es0)∧(zbK muts args ι w).k (1000+i)=some ⟨ι i,z,es0.length,el,m⟩∧(∀ b cs el' fz,ι i=some b->w.heap[b]? = some (.cells cs el' fz)->el'=el∧cs.size=m):=by
     intro i es hi hlt;obtain ⟨c1,c2,_⟩:=zdI houts hi;have hx:=getElem?_eq_getElem hlt;have ho:zp args[i]=true:=by rw[fit i _ hx];simp only[zx,c1,Bool.true_or,Bool.and_true,blt_eq];exact c2
     cases hxx:args[i] with
     | own z es0 =>
      rw[hxx] at hx;have hsite:qP muts i=1000+i:=by rw[qP,if_pos c1]
      have h0:=zcA muts 0 args i z es0 hx;rw[zero_add,hsite] at h0;rcases jQ muts ι 0 args (1000+i) with ⟨q1,_⟩ | ⟨j',z',es',q1,q2,q3,q4⟩
      ·exact absurd q1 h0
      ·rw[zero_add] at q2 q4;obtain rfl:i=j':=zdz c2 (by have:=(List.getElem?_eq_some_iff.1 q1).1;omega) (hsite.trans q2);rw[hx] at q1;cases q1;have hf:zaR (1000+i)=true:=by rw[← hsite,ziG c2];exact c1
       cases hb:ι i with
       | none=>exact ⟨z,es0,0,0,hx,by simp only[zbK,if_pos hf,q3,q4,hb],by simp⟩
       | some b =>
        cases hw:w.heap[b]? with
        | none=>exact ⟨z,es0,0,0,hx,by simp only[zbK,if_pos hf,q3,q4,hb,hw],fun b' cs el' fz e1 e2=>by cases e1;rw[hw] at e2;cases e2⟩
        | some ob =>
         cases ob with
         | cells cs el fz=>exact ⟨z,es0,el,cs.size,hx,by simp only[zbK,if_pos hf,q3,q4,hb,hw],fun b' cs' el' fz' e1 e2=>by cases e1;rw[hw] at e2;cases e2;exact ⟨rfl,rfl⟩⟩
         | _=>exact ⟨z,es0,0,0,hx,by simp only[zbK,if_pos hf,q3,q4,hb,hw],fun b' cs' el' fz' e1 e2=>by cases e1;rw[hw] at e2;cases e2⟩
     | _=>rw[hxx] at ho;simp[zp] at ho
    have hE:∀ s b,σ s=some b->zaR s=false->w.heap.size<=b∨ym ι outs' b:=by
     intro s b hs hf;rcases (h.dom s b hs).2.2.2 with q | ⟨i,hi⟩
     ·exact .inl q
     ·refine .inr ⟨i,hi,fun es hm' => ?_⟩;obtain ⟨z,es0,el,m,q1,q2,_⟩:=kept i es hm' (hι.1 i b hi).1;obtain ⟨p1,p2,_⟩:=h.kp _ _ q2;have:=h.inj s (1000+i) b hs (p2.trans hi);rw[this,p1] at hf;cases hf
    have hA:∀ b,A0 b->((A b∨ym ι outs' b)∨w.heap.size<=b)∧b < w'.heap.size:=by
     intro b hb;refine ⟨?_,h.Alt b hb⟩;rcases h.Asub b hb with q | q | ⟨i,hi⟩
     ·exact .inl (.inl q)
     ·exact .inr q
     ·refine .inl (.inr ⟨i,hi,fun es hm' => ?_⟩);obtain ⟨z,es0,el,m,q1,q2,_⟩:=kept i es hm' (hι.1 i b hi).1;obtain ⟨p1,p2,_⟩:=h.kp _ _ q2;exact (h.dom _ b (p2.trans hi)).2.2.1 hb
    let β:Nat->Option Nat:=fun i=>match rs[i]? with | some (.lsl s z 0 n)=>(match st.hp s with | some (.arr z' es)=>if z=z'∧n=es.length∧zaR s=false then σ s else none | _=>none) | _=>none
    have hβ:∀ i b,β i=some b->∃ s x,rs[i]? = some x∧s∈x.refs∧σ s=some b∧zaR s=false:=by
     intro i b hb;simp only[β] at hb;split at hb
     ·rename_i s z n hi;split at hb
      ·split at hb
       ·rename_i hc;exact ⟨s,_,hi,by simp[AV.refs],hb,hc.2.2⟩
       ·cases hb
      ·cases hb
     ·cases hb
    have hAft:∀ b,A0 b->qv (fun b=>A b∨ym ι outs' b) β w w' b:=fun b hb=>⟨(hA b hb).1,(hA b hb).2,fun i e=>by
     obtain ⟨s,x,_,_,hs,_⟩:=hβ i b e;exact (h.dom s b hs).2.2.1 hb⟩
    have parts:∀ (i:Nat) (y:AV),ys[i]? = some y->yY S (qv (fun b=>A b∨ym ι outs' b) β w w') w' (β i) y (us.getD i undef):=by
     intro i y hy;obtain ⟨x0,hx0,hx1⟩:=d2 i y hy;have hg:=k3 i x0 hx0;by_cases hl:∃ s z n,x0=.lsl s z 0 n
     ·obtain ⟨s,z,n,rfl⟩:=hl;simp only[yA] at hx1;split at hx1
      ·rename_i z' es hb;split at hx1
       ·rename_i hcond;cases hx1;obtain ⟨rfl,rfl,hs1000⟩:=hcond;have hβi:β i=σ s:=by simp[β,hx0,hb,hs1000]
        rw[hβi];exact qE.mono hAft (zfB h hg.rel hb)
       ·cases hx1
      ·cases hx1
     ·have:(if x0.refs.isEmpty then some x0 else none)=some y:=by
       cases x0 with
       | lsl s z off n =>
        cases off with
        | zero=>exact absurd ⟨_,_,_,rfl⟩ hl
        | succ off=>exact hx1
       | _=>exact hx1
      split at this
      ·rename_i hr;have e:=Option.some.inj this;subst e;have hb:β i=none:=by
        clear hx1 this;cases x0 with
        | lsl s z off n=>simp[AV.refs] at hr
        | _=>simp[β,hx0]
       rw[hb];exact qW ((hg.rel.to0 (by simpa using hr)).mono hAft fun _ _=>rfl)
      ·cases this
    refine ⟨_,k1, ?_⟩;have hβ1:∀ i b,β i=some b->(w.heap.size<=b∨ym ι outs' b)∧b < w'.heap.size:=fun i b hb=>(by obtain ⟨s,x,_,_,hs,hf⟩:=hβ i b hb;exact ⟨hE s b hs hf,(h.dom s b hs).2.1⟩);have hβ2:∀ i j b,β i=some b->β j=some b->i=j:=fun i j b hi hj=>(by obtain ⟨s,x,q1,q2,q3,_⟩:=hβ i b hi;obtain ⟨s',x',q1',q2',q3',_⟩:=hβ j b hj;obtain rfl:=h.inj s s' b q3 q3';exact zhO rs i j x x' s hnd q1 q1' q2 q2');have hT:zgu S args ι vs w w' outs' (qv (fun b=>A b∨ym ι outs' b) β w w'):=by
     intro i es z es0 hi hx;obtain ⟨z',es0',el,m,q1,q2,q3⟩:=kept i es hi (List.getElem?_eq_some_iff.1 hx).1;rw[hx] at q1;cases q1;obtain ⟨p1,p2,⟨es1,p3,p4⟩,p5⟩:=h.kp _ _ q2;simp only at p2 p3 p4 p5;obtain ⟨_,_,z2,c3⟩:=zdI houts hi;rw[p3] at c3;cases c3;have ho:qE S A w (ι i) z es0 (vs.getD i undef):=ha i _ hx;obtain ⟨b0,bb⟩:=h.hp _ _ p3;refine ⟨p4,⟨b0, ?_⟩,fun b cs el' hb hc => ?_⟩
     ·obtain ⟨_,⟨o1,o2,o3⟩ | ⟨b,cap,us',el',o1,o2,o3,o4,o5,o6,_⟩⟩:=ho
      ·subst o2;exact .inl ⟨o1,List.length_eq_zero_iff.1 (by simpa using p4),o3⟩
      ·obtain ⟨cs,p6,p7⟩:=p5 b o1;rcases bb with ⟨m1,_⟩ | ⟨b',us2,el2,m1,m2,m3,m4,m5⟩
       ·rw[p2,o1] at m1;cases m1
       ·rw[p2,o1] at m1;cases m1;rw[p6] at m2;cases m2;have hsz:=(q3 b us' el' (0,0) o1 o5).2;exact .inr ⟨b,cap,cs,el,o1,by rw[o2,p4],by omega,o4,p6,by omega,m4,fun i' e' c x h1 h2=>(m5 i' e' c x h1 h2).mono hAft fun _ _=>rfl⟩
     ·obtain ⟨cs',p6,p7⟩:=p5 b hb;obtain ⟨rfl,e2⟩:=q3 b cs el' (0,0) hb hc;exact ⟨cs',p6,by omega⟩
    by_cases hv1:us.size=1
    ·rw[dif_pos hv1];have e:us[0]=us.getD 0 undef:=by simp[Array.getD,hv1]
     match ys,(show ys.length=us.size by omega),parts,d1 with
     | [x],_,parts,d1 =>
      have hx:=parts 0 x rfl;rw[← e] at hx;rw[show qt [x]=x from rfl];by_cases ht:∃ rs,x=.tup rs
      ·obtain ⟨rs',rfl⟩:=ht;have hx2:=wR hx rfl;have hb0:β 0=none:=hx2.1;have hx3:=hx2.2.mono (A':=qv (fun b=>A b∨ym ι outs' b) β w w') (fun b hb=>hb) (fun _ _=>rfl);have hβn:∀ i,β i=none:=by
        intro i;cases i with
        | zero=>exact hb0
        | succ i =>
         have hnone:rs[i+1]? = none:=by
          rw[List.getElem?_eq_none_iff];have:rs.length=1:=by simpa using d1
          omega
         simp only[β,hnone]
       generalize us[0]=v at hx3;refine ⟨β,hβ1,hβ2,hT, ?_⟩;cases hx3 with
       | tup q1 q2=>exact ⟨_,rfl,q1,fun i y hy=>by rw[hβn];exact qW (q2 i y hy)⟩
      ·refine ⟨β,hβ1,hβ2,hT, ?_⟩;cases x with
       | tup rs=>exact absurd ⟨rs,rfl⟩ ht
       | _=>exact hx
     | [],hl,_,_=>simp at hl;omega
     | _ :: _ :: _,hl,_,_=>simp at hl;omega
    ·rw[dif_neg hv1];have e:qt ys=.tup ys:=by
      match ys,(show ys.length=us.size by omega) with
      | [],_=>rfl
      | [x],hl=>simp at hl;omega
      | _ :: _ :: _,_=>rfl
     rw[e];exact ⟨β,hβ1,hβ2,hT,us,rfl,by omega,parts⟩
   ·cases he
  ·cases he
 ·cases he
theorem zg4 (hS:zO S) {g id:Nat} {fn:Func} {f:AFunc} (hg:S.P.funcs[g]? = some fn) (hc:zan S id fn=some f) (hmut:zaO id S.muts≠[]) (hown:S.own.contains id=false) (hD:z7 f.body=true∨jT S) {args:List AV} {r:AV} {outs:zdf}
  (hb:BodyR (za S) f args r outs):yT S g args r outs:=by
 unfold zan at hc;split at hc
 ·rename_i body res hbody hres;split at hc
  ·rename_i hcond;have hnt:=hcond.1;have hnp:=hcond.2.resolve_left hmut;cases hc;obtain ⟨hlen,hfit,e,st',hex,hend,hexp⟩:=hb;simp only at hlen hfit hex hexp hD;rw[hown] at hexp;obtain ⟨c,hfb,hcc⟩:∃ c,fn.body=some c∧js S fn.ntmps c=some body:=by
    cases hfb:fn.body with
    | none=>simp[hfb] at hbody
    | some c=>simp[hfb] at hbody;exact ⟨c,rfl,hbody⟩
   intro A w vs ι hl hA hι hJ ha;have main:c.wp S.P (fun ex a w'=>(ex=.normal∨ex=.ret)∧a.defers=[]∧∃ A' σ',wX S A (zbK (zaO id S.muts) args ι w) w A' σ' w' st' a.tmps) { tmps:=vs++Array.replicate (fn.ntmps - vs.size) undef,defers:=[] } w:=by
    refine wp_mono (Stm.wp (wO hS hex hD hcc ⟨w,.refl S w,hJ,enterM_ok hl (by omega) hA hι ha _⟩ (by simp;omega))) ?_;rintro ex a w' ⟨q1,q2,q3,q4⟩;refine ⟨?_,q2,q4⟩;subst q1;rcases hend with rfl | rfl
    ·exact .inl rfl
    ·exact .inr rfl
   refine calls_of_wp hg hfb (wp_mono main ?_);rintro ex a w' ⟨q1,q2,A',σ',w2,r2,j2,q3⟩;have hjb:∀ i b,ι i=some b->w2.heap[b]? = w.heap[b]?:=fun i b hb=>r2.block b fun e=>hJ.no b e ⟨i,hb⟩;have hkp:=r2.keep q3.keep;have hj:=(q3.jpreA j2).jn;rw[← zi0 (muts:=zaO id S.muts) (args:=args) hjb] at q3;obtain ⟨v,k1,k2⟩:=zi4 hl (by omega) hfit ⟨fun i b hb=>by rw[r2.size];exact hι.1 i b hb,hι.2⟩ (fun i x hx=>(ha i x hx).same (fun b hb=>r2.block b fun e=>hJ.na b e hb) (hjb i)) q3 hres hmut hexp;have k2:=k2.same r2.size.symm fun i b hb=>(hjb i b hb).symm;rcases q1 with rfl | rfl
   ·exact ⟨q2,v,k1,v,rfl,hkp,hj,k2⟩
   ·exact ⟨q2,v,k1,v,rfl,hkp,hj,k2⟩
  ·cases hc
 ·cases hc
theorem zi1 (hS:zO S) {g id:Nat} {fn:Func} {f:AFunc} (hg:S.P.funcs[g]? = some fn) (hc:zan S id fn=some f) (hD:z7 f.body=true∨jT S) {args:List AV} {r:AV} {outs:zdf}
  (hb:BodyR (za S) f args r outs):yT S g args r outs:=by
 by_cases hmut:zaO id S.muts=[]
 ·obtain ⟨rfl,h⟩:=zg5 hS hg hc hmut hD hb;refine jM h (zap 0 args ?_);have h2:=hb.2.1;unfold zan at hc;split at hc
  ·split at hc
   ·cases hc;simp only[hmut] at h2;exact h2
   ·cases hc
  ·cases hc
 ·refine zg4 hS hg hc hmut ?_ hD hb;obtain ⟨_,_,e,st',_,_,hexp⟩:=hb;unfold zan at hc;split at hc
  ·split at hc
   ·cases hc;simp only at hexp;cases ho:S.own.contains id with
    | false=>rfl
    | true =>
     rw[ho] at hexp;unfold qN at hexp;split at hexp
     ·simp only[if_true] at hexp;split at hexp
      ·rename_i hq;exact absurd hq.2 hmut
      ·cases hexp
     ·cases hexp
   ·cases hc
  ·cases hc
theorem ok_of (hS:zO S) {G:Nat->Option AFunc} (hG:∀ g id,zV g S.fns=some id->∀ f,G id=some f->∃ fn,S.P.funcs[g]? = some fn∧zan S id fn=some f) (hD:∀ id f,G id=some f->z7 f.body=true∨jT S):Ok G (za S):=by intro id f args r outs hf hb g hg;obtain ⟨fn,h1,h2⟩:=hG g id hg f hf;exact zi1 hS h1 h2 (hD id f hf) hb
end
end
section
def Ext (h h2:Nat->Option Blk):Prop:=∀ s b,h s=some b->h2 s=some b
theorem zgk {st st2:ASt} {n:Nat} {lo hi:Option AOpd} (h:∀ x∈lo.toList++hi.toList,st.ev x=st2.ev x):bounds st n lo hi=bounds st2 n lo hi:=by cases lo<;>cases hi<;>simp_all[bounds]
theorem j8 {α β:Type} {f g:α->Option β}:∀ {l:List α},(∀ x∈l,f x=g x)->zb f l=zb g l
 | [],_=>rfl
 | x :: r,h=>by
  simp only[zb];rw[h x mem_cons_self,j8 fun y hy=>h y (mem_cons_of_mem _ hy)]
theorem zhj {h h2:Nat->Option Blk} (he:Ext h h2) {x:AV} {p:List AV×Nat} (hc:cellsAt h x=some p):cellsAt h2 x=some p:=by
 cases x with
 | pv s off =>
  simp only[cellsAt] at hc ⊢;split at hc
  ·rename_i hb;rw[he _ _ hb];exact hc
  ·cases hc
 | pe s z i off =>
  simp only[cellsAt] at hc ⊢;split at hc
  ·rename_i hb;rw[he _ _ hb];exact hc
  ·cases hc
 | ep cs off=>exact hc
 | _=>cases hc
theorem zcc {h h2:Nat->Option Blk} (he:Ext h h2) {x y:AV} (hc:qa h x=some y):qa h2 x=some y:=by
 cases x with
 | pe s z i off =>
  simp only[qa] at hc ⊢;split at hc
  ·rename_i hb;rw[he _ _ hb];exact hc
  ·cases hc
 | lsl s z off len =>
  simp only[qa] at hc ⊢;split at hc
  ·rename_i hb;rw[he _ _ hb];exact hc
  ·cases hc
 | _=>exact hc
theorem jE {α β:Type} {f g:α->Option β} (h:∀ x y,f x=some y->g x=some y):∀ {l:List α} {ys:List β},zb f l=some ys->zb g l=some ys
 | [],_,hl=>hl
 | x :: r,ys,hl=>by
  simp only[zb] at hl ⊢;split at hl
  ·rename_i y ys' h1 h2;rw[h x y h1,jE h h2];exact hl
  ·cases hl
theorem zau {h h2:Nat->Option Blk} (he:Ext h h2) {x y:AV} (hc:qe h x=some y):qe h2 x=some y:=by
 cases x with
 | pv s off =>
  simp only[qe] at hc ⊢;split at hc
  ·rename_i hb;rw[he _ _ hb];split at hc
   ·rename_i hcs;have:=jE (g:=qa h2) (fun _ _=>zcc he) hcs;simp only[this];exact hc
   ·cases hc
  ·cases hc
 | agg cs =>
  simp only[qe] at hc ⊢;split at hc
  ·rename_i hcs;rw[jE (g:=qa h2) (fun _ _=>zcc he) hcs];exact hc
  ·cases hc
 | _=>simp only[qe] at hc ⊢;exact zcc he hc
theorem snap_ext {h h2:Nat->Option Blk} (he:Ext h h2) {x y:AV} (hc:zas h x=some y):zas h2 x=some y:=by
 cases x with
 | fn f cs =>
  simp only[zas] at hc ⊢;split at hc
  ·rename_i hcs;rw[jE (g:=qe h2) (fun _ _=>zau he) hcs];exact hc
  ·cases hc
 | tup cs =>
  simp only[zas] at hc ⊢;split at hc
  ·rename_i hcs;rw[jE (g:=qe h2) (fun _ _=>zau he) hcs];exact hc
  ·cases hc
 | agg cs =>
  simp only[zas] at hc ⊢;split at hc
  ·rename_i hcs;rw[jE (g:=qe h2) (fun _ _=>zau he) hcs];exact hc
  ·cases hc
 | _=>simp only[zas] at hc ⊢;exact zau he hc
theorem zbA {h h2:Nat->Option Blk} (he:Ext h h2):∀ (i:Nat) (l ys:List AV),zK h [] i l=some ys->zK h2 [] i l=some ys
 | _,[],_,hl=>hl
 | i,x :: r,ys,hl=>by
  simp only[zK,zx,contains_nil,Bool.or_self,Bool.and_false,false_eq_true,if_false,List.isEmpty_nil,if_true] at hl ⊢;split at hl
  ·rename_i y ys' h1 h2;rw[snap_ext he h1,zbA he (i+1) r ys' h2];exact hl
  ·cases hl
theorem zgv.ext {M:Rets} {f:Nat} {args:List AV} {st st2:ASt} {v:AV} (h:zgv M f args st v) (he:Ext st.hp st2.hp):zgv M f args st2 v:=by obtain ⟨a,h1,h2⟩:=h;exact ⟨a,zbA he _ _ _ h1,h2⟩
theorem zgm {o:AOp} {d:Nat} {st st2 st1:ASt} {v:AV} (hk:o.kind<=1) (hv:∀ x∈o.opds,st.ev x=st2.ev x) (he:o.kind=0∨Ext st.hp st2.hp) (h:aop o d st=some (v,st1)) :
  st1=st∧aop o d st2=some (v,st2):=by
 cases o with
 | load n x =>
  have he':=he.resolve_left (by simp[AOp.kind]);have e:=hv x (by simp[AOp.opds]);simp only[aop] at h ⊢;rw[← e];split at h
  ·rename_i hc;rw[zhj he' hc];split at h
   ·rename_i hy;simp only[hy];cases h;exact ⟨rfl,rfl⟩
   ·cases h
  ·cases h
 | build zero ps =>
  have e:∀ p∈ps,st.ev p.2.2=st2.ev p.2.2:=fun p hp=>hv _ (by simp only[AOp.opds,mem_map];exact ⟨p,hp,rfl⟩);simp only[aop] at h ⊢;split at h
  ·rename_i ps' hps;split at h
   ·rename_i cs hcs;cases h;have hps2:=(j8 (f:=fun (p:Nat×Nat×AOpd)=>match (st2.ev p.2.2).cells with | some cs=>if cs.length=p.2.1 then some (p.1,cs) else none | none=>none) (fun p hp=>by simp only[← e p hp];rfl)).trans hps;refine ⟨rfl, ?_⟩
    erw [hps2]
    simp only[hcs]
   ·cases h
  ·cases h
 | lit z zero len ps =>
  have e:∀ p∈ps,st.ev p.2=st2.ev p.2:=fun p hp=>hv _ (by simp only[AOp.opds,mem_map];exact ⟨p,hp,rfl⟩);simp only[aop] at h ⊢;split at h
  ·rename_i ps' hps;cases h;have hps2:=(j8 (f:=fun (p:Nat×AOpd)=>match (st2.ev p.2).cells with | some cs=>(match zb (qa fun _=>none) cs with | some cs=>if cs.length=z then some (p.1,cs) else none | none=>none) | none=>none) (fun p hp=>by simp only[← e p hp];rfl)).trans hps
   refine ⟨rfl, ?_⟩
   erw [hps2]
  ·cases h
 | mkfn f xs =>have e:xs.map st.ev=xs.map st2.ev:=map_congr_left hv;simp only[aop] at h ⊢;rw[← e];cases h;exact ⟨rfl,rfl⟩
 | slc z x lo hi =>
  have e:=hv x (by simp[AOp.opds]);have eb:∀ n,bounds st n lo hi=bounds st2 n lo hi:=fun n=>zgk fun y hy=>hv y (by simp only[AOp.opds];exact mem_cons_of_mem _ hy);simp only[aop] at h ⊢;rw[← e];simp only[← eb]
  repeat' split at h
  all_goals (first | (cases h;done) | skip)
  all_goals simp_all
 | alloc=>simp[AOp.kind] at hk
 | bslice b=>cases b<;>simp[AOp.kind] at hk
 | store=>simp[AOp.kind] at hk
 | box=>simp[AOp.kind] at hk
 | mksl=>simp[AOp.kind] at hk
 | app=>simp[AOp.kind] at hk
 | call=>simp[aop] at h
 | calld=>simp[aop] at h
 | mov x=>have e:=hv x (by simp[AOp.opds]);simp only[aop] at h ⊢;rw[← e];cases h;exact ⟨rfl,rfl⟩
 | ifc t x=>have e:=hv x (by simp[AOp.opds]);simp only[aop] at h ⊢;rw[← e];cases h;exact ⟨rfl,rfl⟩
 | chk x=>have e:=hv x (by simp[AOp.opds]);simp only[aop] at h ⊢;rw[← e];repeat' split at h;all_goals (first | (cases h;done) | simp_all)
 | eqn sl neg x=>have e:=hv x (by simp[AOp.opds]);simp only[aop] at h ⊢;rw[← e];repeat' split at h;all_goals (first | (cases h;done) | simp_all)
 | un op x=>have e:=hv x (by simp[AOp.opds]);simp only[aop] at h ⊢;rw[← e];repeat' split at h;all_goals (first | (cases h;done) | simp_all)
 | cvi k x=>have e:=hv x (by simp[AOp.opds]);simp only[aop] at h ⊢;rw[← e];repeat' split at h;all_goals (first | (cases h;done) | simp_all)
 | cvs x=>have e:=hv x (by simp[AOp.opds]);simp only[aop] at h ⊢;rw[← e];repeat' split at h;all_goals (first | (cases h;done) | simp_all)
 | fa off x=>have e:=hv x (by simp[AOp.opds]);simp only[aop] at h ⊢;rw[← e];repeat' split at h;all_goals (first | (cases h;done) | simp_all)
 | fld off n x=>have e:=hv x (by simp[AOp.opds]);simp only[aop] at h ⊢;rw[← e];repeat' split at h;all_goals (first | (cases h;done) | simp_all)
 | ext x i=>have e:=hv x (by simp[AOp.opds]);simp only[aop] at h ⊢;rw[← e];repeat' split at h;all_goals (first | (cases h;done) | simp_all)
 | len s x=>have e:=hv x (by simp[AOp.opds]);simp only[aop] at h ⊢;rw[← e];repeat' split at h;all_goals (first | (cases h;done) | simp_all)
 | bin k op x y=>have e:=hv x (by simp[AOp.opds]);have e2:=hv y (by simp[AOp.opds]);simp only[aop] at h ⊢;rw[← e,← e2];repeat' split at h;all_goals (first | (cases h;done) | simp_all)
 | eqa neg sh x y=>have e:=hv x (by simp[AOp.opds]);have e2:=hv y (by simp[AOp.opds]);simp only[aop] at h ⊢;rw[← e,← e2];repeat' split at h;all_goals (first | (cases h;done) | simp_all)
 | ia z x y=>have e:=hv x (by simp[AOp.opds]);have e2:=hv y (by simp[AOp.opds]);simp only[aop] at h ⊢;rw[← e,← e2];repeat' split at h;all_goals (first | (cases h;done) | simp_all)
 | ix x y=>have e:=hv x (by simp[AOp.opds]);have e2:=hv y (by simp[AOp.opds]);simp only[aop] at h ⊢;rw[← e,← e2];repeat' split at h;all_goals (first | (cases h;done) | simp_all)
 | max2 x y=>have e:=hv x (by simp[AOp.opds]);have e2:=hv y (by simp[AOp.opds]);simp only[aop] at h ⊢;rw[← e,← e2];repeat' split at h;all_goals (first | (cases h;done) | simp_all)
 | pick c x y=>have e0:=hv c (by simp[AOp.opds]);have e:=hv x (by simp[AOp.opds]);have e2:=hv y (by simp[AOp.opds]);simp only[aop] at h ⊢;rw[← e0,← e,← e2];repeat' split at h;all_goals (first | (cases h;done) | simp_all)
theorem zje {o:AOp} {d:Nat} {st st1:ASt} {v:AV} (hk:o.kind=2∨o.kind=3) (h:aop o d st=some (v,st1)) :
  ∃ s blk,st1=st.setH s (some blk)∧(o.kind=2->st.hp s=none)∧∀ st2:ASt,st2.hp=st.hp->(∀ x∈o.opds,st.ev x=st2.ev x)->aop o d st2=some (v,st2.setH s (some blk)):=by
 cases o with
 | alloc zero =>
  simp only[aop] at h;split at h
  ·rename_i hd;cases h;exact ⟨d,_,rfl,fun _=>hd,fun st2 h2 _=>by simp only[aop,h2,hd]⟩
  ·cases h
 | bslice b z zero len ps =>
  cases b with
  | true=>simp[AOp.kind] at hk
  | false =>
   simp only[aop] at h;split at h
   ·rename_i ps' hd hps;split at h
    ·rename_i hr;have hr':qL st ps=[]:=by simpa using hr
     rw[hr'] at h;simp only[ASt.freezeL] at h;cases h;refine ⟨d,_,rfl,fun _=>hd,fun st2 h2 hv => ?_⟩;have e:∀ p∈ps,st.ev p.2=st2.ev p.2:=fun p hp=>hv _ (by simp only[AOp.opds,mem_map];exact ⟨p,hp,rfl⟩);have hr2:qL st2 ps=[]:=(by rw[← hr'];unfold qL;congr 1;exact map_congr_left fun p hp=>(e p hp).symm);have hps2:=(j8 (f:=fun (p:Nat×AOpd)=>match (st2.ev p.2).cells with | some cs=>(match zb (qa st.hp) cs with | some cs=>if cs.length=z then some (p.1,cs) else none | none=>none) | none=>none) (fun p hp=>by simp only[← e p hp];rfl)).trans hps
     simp only[aop,h2,hd,hr2,or_true,if_true,ASt.freezeL]
     erw [hps2]
    ·cases h
   ·cases h
 | store z a x =>
  simp only[aop] at h
  repeat' split at h
  all_goals (first | (cases h;done) | skip)
  all_goals cases h
  all_goals
   refine ⟨_,_,rfl,by simp[AOp.kind],fun st2 h2 hv => ?_⟩;have e1:=hv a (by simp[AOp.opds]);have e2:=hv x (by simp[AOp.opds]);simp only[aop,h2,← e1,← e2];simp_all
 | load=>simp[AOp.kind] at hk
 | box=>simp[AOp.kind] at hk
 | mksl z zero l c =>
  simp only[aop] at h;split at h
  ·rename_i n c' hd hl hc;split at h
   ·rename_i hcond;cases h;refine ⟨d,_,rfl,fun _=>hd,fun st2 h2 hv => ?_⟩;have e1:=hv l (by simp[AOp.opds]);have e2:=hv c (by simp[AOp.opds]);simp only[aop,h2,← e1,← e2,hd,hl,hc];rw[if_pos hcond]
   ·cases h
  ·cases h
 | app=>simp[AOp.kind] at hk
 | call frz muts f args=>simp[aop] at h
 | calld=>simp[AOp.kind] at hk
 | _=>simp[AOp.kind] at hk
theorem ev_putO {st:ASt} {d:Option Nat} {v:AV} {x:AOpd} (h:∀ n,x=.t n->d≠some n):(st.putO d v).ev x=st.ev x:=by
 cases d with
 | none=>rfl
 | some d =>
  cases x with
  | t n =>have hn:n≠d:=fun e=>h n rfl (by rw[e]);simp only[ASt.putO,ASt.put,ASt.ev,upd,if_neg hn]
  | _=>rfl
theorem ev_setH {st:ASt} {s:Nat} {b:Option Blk} {x:AOpd}:(st.setH s b).ev x=st.ev x:=by cases x<;>rfl
theorem zak {st:ASt} {d:Option Nat} {v:AV}:(st.putO d v).hp=st.hp:=by cases d<;>rfl
theorem zaw {st:ASt} {d e:Option Nat} {v x:AV} (h:∀ n,d=some n->e≠some n):(st.putO d v).putO e x=(st.putO e x).putO d v:=by
 cases d with
 | none=>rfl
 | some d =>
  cases e with
  | none=>rfl
  | some e =>
   have hn:d≠e:=fun e'=>h d rfl (by rw[e']);simp only[ASt.putO,ASt.put];congr 1;funext k;simp only[upd];by_cases h1:k=e
   ·rw[if_pos h1,if_neg (fun e'=>hn (e'.symm.trans h1)),if_pos h1]
   ·rw[if_neg h1];by_cases h2:k=d
    ·rw[if_pos h2,if_pos h2]
    ·rw[if_neg h2,if_neg h2,if_neg h1]
theorem setH_putO {st:ASt} {d:Option Nat} {v:AV} {s:Nat} {b:Option Blk}:(st.putO d v).setH s b=(st.setH s b).putO d v:=by cases d<;>rfl
theorem gval_putO {st:ASt} {d:Option Nat} {v:AV} {g:Option (Nat×Bool)} (h:∀ t w,g=some (t,w)->d≠some t):zbL (st.putO d v) g=zbL st g:=by
 cases g with
 | none=>rfl
 | some p =>
  obtain ⟨t,w⟩:=p;have:(st.putO d v).fr t=st.fr t:=by
   cases d with
   | none=>rfl
   | some d =>have hn:t≠d:=fun e=>h t w rfl (by rw[e]);simp only[ASt.putO,ASt.put,upd,if_neg hn]
  simp only[zbL,this]
theorem gval_setH {st:ASt} {s:Nat} {b:Option Blk} {g:Option (Nat×Bool)}:zbL (st.setH s b) g=zbL st g:=by
 cases g with
 | none=>rfl
 | some p=>rfl
theorem gval_hp {fr:Nat->AV} {hp hp2:Nat->Option Blk} {g:Option (Nat×Bool)}:zbL ⟨fr,hp⟩ g=zbL ⟨fr,hp2⟩ g:=by
 cases g with
 | none=>rfl
 | some p=>rfl
theorem zf3 {d:Option Nat} {l:List Nat} (h:zds d l=false):∀ n,n∈l->d≠some n:=by intro n hn e;subst e;simp only[zds,contains_eq_mem,decide_eq_false_iff_not] at h;exact h hn
theorem zaV {o:AOper} {st:ASt} {d:Option Nat} {v:AV} (h:zds d o.seen=false):∀ x∈o.op.opds,(st.putO d v).ev x=st.ev x:=by intro x hx;refine ev_putO fun n e=>zf3 h n ?_;subst e;simp only[AOper.seen,mem_append,List.mem_filterMap];exact .inl ⟨_,hx,rfl⟩
theorem yr {o:AOper} {st:ASt} {d:Option Nat} {v:AV} (h:zds d o.seen=false):zbL (st.putO d v) o.grd=zbL st o.grd:=by refine gval_putO fun t w e=>zf3 h t ?_;simp only[AOper.seen,mem_append,e];exact .inr (List.mem_singleton.2 rfl)
theorem zaS {M:Rets} {o:AOp} {d:Nat} {st st1:ASt} {v:AV} (hk:o.kind<=1) (h:qX M true o d st v st1) :
  st1=st∧∀ st2:ASt,(∀ x∈o.opds,st.ev x=st2.ev x)->(o.kind=0∨Ext st.hp st2.hp)->qX M true o d st2 v st2:=by
 cases o with
 | call frz muts f args =>
  obtain rfl:muts=[]:=by
   match muts,hk with
   | [],_=>rfl
   | [k],hk=>simp only[AOp.kind] at hk;split at hk<;>omega
   | _ :: _ :: _,hk=>simp[AOp.kind] at hk
  simp only[qX,and_self,if_true] at h ⊢;obtain ⟨rfl,hc⟩:=h;refine ⟨rfl,fun st2 hv he=>⟨trivial, ?_⟩⟩;have e:args.map st1.ev=args.map st2.ev:=map_congr_left hv;rw[← e];exact hc.ext (he.resolve_left (by simp[AOp.kind]))
 | calld frz x args =>
  simp only[qX,if_true] at h;split at h
  ·rename_i f caps hx;obtain ⟨rfl,hc⟩:=h;refine ⟨rfl,fun st2 hv he => ?_⟩;have ex:=hv x (by simp[AOp.opds]);simp only[qX,if_true,← ex,hx];rw[← map_congr_left (f:=st1.ev) (g:=st2.ev) fun y hy=>hv y (by simp[AOp.opds,hy])];exact ⟨trivial,hc.ext (he.resolve_left (by simp[AOp.kind]))⟩
  ·exact h.elim
 | _ =>have h':aop _ d st=some (v,st1):=h;refine ⟨(zgm hk (fun _ _=>rfl) (.inr fun _ _ h=>h) h').1,fun st2 hv he => ?_⟩;exact (zgm hk hv he h').2
theorem zg3 (i:Nat):zx [3000] i=false:=by
 simp only[zx,List.contains_cons,contains_nil,Bool.or_false,Bool.and_eq_false_iff,Bool.or_eq_false_iff,beq_eq_false_iff_ne];by_cases h:i < 1000
 ·exact .inr ⟨by omega,by omega⟩
 ·refine .inl ?_;cases hb:Nat.blt i 1000 with
  | false=>rfl
  | true=>rw[blt_eq] at hb;exact absurd hb h
theorem zfO:∀ (i:Nat) (l:List AV),zR [3000] i l=[]
 | _,[]=>rfl
 | i,x :: r=>by simp only[zR,zg3,false_eq_true,if_false,List.nil_append];exact zfO (i+1) r
theorem zga:∀ (i:Nat) (l:List AV),zD [3000] i l=[]
 | _,[]=>rfl
 | i,x :: r=>by simp only[zD,zg3,Bool.false_and,false_eq_true,if_false,List.nil_append];exact zga (i+1) r
theorem zcv {d:Nat}:∀ {i:Nat} {l ys:List AV} {st st1:ASt},zbJ d i l st=some (ys,st1)->st1.fr=st.fr∧Ext st.hp st1.hp∧∀ st2:ASt,st2.hp=st.hp->zbJ d i l st2=some (ys,⟨st2.fr,st1.hp⟩)
 | i,[],ys,st,st1,h=>by
  simp only[zbJ,Option.some.injEq,Prod.mk.injEq] at h;obtain ⟨rfl,rfl⟩:=h;exact ⟨rfl,fun _ _ h=>h,fun st2 h2=>by simp only[zbJ,← h2]⟩
 | i,x :: r,ys,st,st1,h=>by
  have other:(match zbJ d (i+1) r st with | some (ys,st')=>some (x :: ys,st') | none=>none)=some (ys,st1)->(∀ st2:ASt,zbJ d i (x :: r) st2=(match zbJ d (i+1) r st2 with | some (ys,st')=>some (x :: ys,st') | none=>none))->st1.fr=st.fr∧Ext st.hp st1.hp∧∀ st2:ASt,st2.hp=st.hp->zbJ d i (x :: r) st2=some (ys,⟨st2.fr,st1.hp⟩):=by
   intro h hx;split at h
   ·rename_i ys' st' e;cases h;obtain ⟨k1,k2,k3⟩:=zcv e;exact ⟨k1,k2,fun st2 h2=>by rw[hx,k3 st2 h2]⟩
   ·cases h
  cases x with
  | own z es =>
   simp only[zbJ] at h;split at h
   ·rename_i ys' st' e1 e2;cases h;obtain ⟨k1,k2,k3⟩:=zcv e2;refine ⟨k1,fun s b hb=>k2 s b ?_,fun st2 h2 => ?_⟩
    ·simp only[ASt.setH,upd];split
     ·rename_i e;subst e;rw[e1] at hb;cases hb
     ·exact hb
    ·have:=k3 (st2.setH (d+10000 * (i+1)) (some (.arr z es))) (by simp only[ASt.setH,h2]);simp only[zbJ,h2,e1,this];rfl
   ·cases h
  | _=>exact other h fun _=>rfl
theorem imp_spec {d:Nat} {r v:AV} {st st1:ASt} (h:imp d r st=some (v,st1)):st1.fr=st.fr∧Ext st.hp st1.hp∧∀ st2:ASt,st2.hp=st.hp->imp d r st2=some (v,⟨st2.fr,st1.hp⟩):=by
 cases r with
 | own z es =>
  simp only[imp] at h;split at h
  ·rename_i e;cases h;refine ⟨rfl,fun s b hb => ?_,fun st2 h2=>by simp only[imp,h2,e,ASt.setH]⟩;simp only[ASt.setH,upd];split
   ·rename_i e';subst e';rw[e] at hb;cases hb
   ·exact hb
  ·cases h
 | tup vs =>
  simp only[imp] at h;split at h
  ·rename_i ys st' e;cases h;obtain ⟨k1,k2,k3⟩:=zcv e;exact ⟨k1,k2,fun st2 h2=>by simp only[imp,k3 st2 h2]⟩
  ·cases h
 | _ =>simp only[imp,Option.some.injEq,Prod.mk.injEq] at h;obtain ⟨rfl,rfl⟩:=h;exact ⟨rfl,fun _ _ h=>h,fun st2 h2=>by simp only[imp,← h2]⟩
theorem callR3 {M:Rets} {frz:Bool} {f:Nat} {args:List AV} {d:Nat} {st st1:ASt} {v:AV}:zaq M frz [3000] f args d st v st1↔∃ args' r,zK st.hp [3000] 0 args=some args'∧M.ret f args' r []∧imp d r st=some (v,st1):=by
 unfold zaq;rw[zfO,zga];constructor
 ·rintro ⟨args',r,outs,s1,s2,h1,_,h3,h4,⟨_,h5,h6⟩,h7⟩;have ho:outs=[]:=List.map_eq_nil_iff.1 h5;subst ho;simp only[List.isEmpty_cons,false_eq_true,if_false,settle,or_true,if_true,Option.some.injEq] at h4;subst h4;simp only[yG,ASt.dropL,Option.some.injEq] at h6;subst h6;exact ⟨args',r,h1,h3,h7⟩
 ·rintro ⟨args',r,h1,h3,h7⟩;exact ⟨args',r,[],st,st,h1,rfl,h3,by simp[settle],⟨rfl,rfl,rfl⟩,h7⟩
theorem zgC {M:Rets} {o:AOp} {d:Nat} {st st1:ASt} {v:AV} (hk:o.kind=2∨o.kind=3) (h:qX M true o d st v st1) :
  ∃ hp',st1=⟨st.fr,hp'⟩∧(o.kind=2->Ext st.hp hp')∧∀ st2:ASt,st2.hp=st.hp->(∀ x∈o.opds,st.ev x=st2.ev x)->qX M true o d st2 v ⟨st2.fr,hp'⟩:=by
 have plain:(∃ s blk,st1=st.setH s (some blk)∧(o.kind=2->st.hp s=none)∧∀ st2:ASt,st2.hp=st.hp->(∀ x∈o.opds,st.ev x=st2.ev x)->qX M true o d st2 v (st2.setH s (some blk))) ->
   ∃ hp',st1=⟨st.fr,hp'⟩∧(o.kind=2->Ext st.hp hp')∧∀ st2:ASt,st2.hp=st.hp->(∀ x∈o.opds,st.ev x=st2.ev x)->qX M true o d st2 v ⟨st2.fr,hp'⟩:=by
  rintro ⟨s,blk,rfl,k1,k2⟩;refine ⟨_,rfl,fun hk s' b hb => ?_,fun st2 h2 hv => ?_⟩
  ·simp only[ASt.setH,upd];split
   ·rename_i e;subst e;rw[k1 hk] at hb;cases hb
   ·exact hb
  ·have:=k2 st2 h2 hv;simp only[ASt.setH,h2] at this;exact this
 cases o with
 | call frz muts f args =>
  obtain rfl:muts=[3000]:=by
   match muts,hk with
   | [],hk=>simp[AOp.kind] at hk
   | [k],hk =>
    simp only[AOp.kind] at hk;split at hk
    ·rename_i e;rw[Nat.eq_of_beq_eq_true e]
    ·omega
   | _ :: _ :: _,hk=>simp[AOp.kind] at hk
  have hs:zaq M frz [3000] f (args.map st.ev) d st v st1:=(by simpa[qX] using h);obtain ⟨args',r,h1,h2,h3⟩:=callR3.1 hs;obtain ⟨k1,k2,k3⟩:=imp_spec h3;obtain ⟨fr1,hp1⟩:=st1;simp only at k1 k2 k3;subst k1;refine ⟨hp1,rfl,fun _=>k2,fun st2 e2 hv => ?_⟩;have e:args.map st.ev=args.map st2.ev:=map_congr_left hv;have:zaq M frz [3000] f (args.map st2.ev) d st2 v ⟨st2.fr,hp1⟩:=callR3.2 ⟨args',r,by rw[← e,e2];exact h1,h2,k3 st2 e2⟩;simpa[qX] using this
 | calld=>simp[AOp.kind] at hk
 | _=>exact plain (zje hk h)
def ASt.setHo (st:ASt):Option (Nat×Blk)->ASt
 | none=>st
 | some (d,b)=>st.setH d (some b)
theorem mk_op {M:Rets} {k:AOper} {st s1:ASt} (hm:k.op.isMk=true) (h:OpR M true k st s1) :
  ∃ (f:Option (Nat×Blk)) (v:AV),s1=(st.setHo f).putO k.dst v∧(∀ d b,f=some (d,b)->st.hp d=none) ∧
   ∀ x:ASt,(∀ y∈k.op.opds,st.ev y=x.ev y)->zbL x k.grd=zbL st k.grd->(∀ d b,f=some (d,b)->x.hp d=none)->OpR M true k x ((x.setHo f).putO k.dst v):=by
 rcases h with ⟨g,v,st1,hs,rfl⟩ | ⟨g,rfl⟩
 ·cases hop:k.op with
  | mksl z zero l c =>
   rw[hop] at hs;have hs:aop (.mksl z zero l c) (k.dst.getD 0) st=some (v,st1):=hs;simp only[aop] at hs;split at hs
   ·rename_i n c' hd hl hc;split at hs
    ·rename_i hcond;cases hs;refine ⟨some (k.dst.getD 0,_),_,rfl,fun d b e=>by cases e;exact hd,fun x hv hg hx=>.inl ⟨hg.trans g,_,_, ?_,rfl⟩⟩;have e1:=hv l (by simp[AOp.opds]);have e2:=hv c (by simp[AOp.opds]);rw[hop];show aop (.mksl z zero l c) (k.dst.getD 0) x=_;simp only[aop,← e1,← e2,hx _ _ rfl,hl,hc];rw[if_pos hcond];rfl
    ·cases hs
   ·cases hs
  | _=>rw[hop] at hm;cases hm
 ·exact ⟨none,ud,rfl,(fun d b e=>by cases e),fun x hv hg hx=>.inr ⟨hg.trans g,rfl⟩⟩
theorem zdA {st:ASt} {d:Option Nat} {v:AV} {f:Option (Nat×Blk)}:(st.putO d v).setHo f=(st.setHo f).putO d v:=by
 cases f with
 | none=>rfl
 | some p=>exact setH_putO
theorem ziH {st:ASt} {f g:Option (Nat×Blk)} (h:∀ d b e c,f=some (d,b)->g=some (e,c)->d≠e):(st.setHo f).setHo g=(st.setHo g).setHo f:=by
 cases f with
 | none=>rfl
 | some p =>
  cases g with
  | none=>rfl
  | some q =>
   have hne:=h p.1 p.2 q.1 q.2 rfl rfl;simp only[ASt.setHo,ASt.setH,ASt.mk.injEq,true_and];funext k;simp only[upd];by_cases e1:k=q.1
   ·by_cases e2:k=p.1
    ·exact absurd (e2.symm.trans e1) hne
    ·rw[if_pos e1,if_neg e2,if_pos e1]
   ·by_cases e2:k=p.1
    ·rw[if_neg e1,if_pos e2,if_pos e2]
    ·rw[if_neg e1,if_neg e2,if_neg e2,if_neg e1]
theorem zh8 {st:ASt} {f:Option (Nat×Blk)} {x:AOpd}:(st.setHo f).ev x=st.ev x:=by
 cases f with
 | none=>rfl
 | some p=>exact ev_setH
theorem zdT {st:ASt} {f:Option (Nat×Blk)} {g:Option (Nat×Bool)}:zbL (st.setHo f) g=zbL st g:=by
 cases f with
 | none=>rfl
 | some p=>exact gval_setH
theorem swap_mk {M:Rets} {k i:AOper} {st s1 s2:ASt} (hk:k.op.isMk=true) (hi:i.op.isMk=true) (p1:zds k.dst i.seen=false) (p2:zds i.dst k.seen=false) (hne:∀ n,k.dst=some n->i.dst≠some n) (h1:OpR M true k st s1) (h2:OpR M true i s1 s2):∃ s1',OpR M true i st s1'∧OpR M true k s1' s2:=by
 obtain ⟨f,v,rfl,f1,f2⟩:=mk_op hk h1;obtain ⟨g,u,rfl,g1,g2⟩:=mk_op hi h2;have hd:∀ d b e c,f=some (d,b)->g=some (e,c)->d≠e:=(by intro d b e c hf hg hde;subst hde;have:=g1 d c hg;rw[hf,zak] at this;simp[ASt.setHo,ASt.setH,upd] at this);refine ⟨(st.setHo g).putO i.dst u,g2 st (fun y hy=>by rw[zaV p1 y hy,zh8]) (by rw[yr p1,zdT]) (fun d b hg => ?_), ?_⟩
 ·have:=g1 d b hg;rw[zak] at this;cases f with
  | none=>exact this
  | some p =>have hne:=hd p.1 p.2 d b rfl hg;simpa[ASt.setHo,ASt.setH,upd,Ne.symm hne] using this
 ·have:=f2 ((st.setHo g).putO i.dst u) (fun y hy=>by rw[zaV p2 y hy,zh8]) (by rw[yr p2,zdT]) (fun d b hf=>by
   rw[zak];have h0:=f1 d b hf;cases g with
   | none=>exact h0
   | some p =>
    have hne:=hd d b p.1 p.2 hf rfl;simpa[ASt.setHo,ASt.setH,upd,hne] using h0)
  rw[zdA,ziH (fun d b e c h1 h2=>(hd e c d b h2 h1).symm),zaw (fun n e1 e2=>hne n e2 e1)] at this;rw[zdA];exact this
theorem swap {M:Rets} {k i:AOper} {st s1 s2:ASt} (hp:zcg k i=true) (h1:OpR M true k st s1) (h2:OpR M true i s1 s2):∃ s1',OpR M true i st s1'∧OpR M true k s1' s2:=by
 simp only[zcg,and_eq_true,or_eq_true,beq_iff_eq,blt_eq,not_eq_true'] at hp;obtain ⟨⟨⟨hk,p1⟩,p2⟩,p3⟩:=hp;have hne:∀ n,k.dst=some n->i.dst≠some n:=(by intro n e1 e2;rw[e1,e2] at p3;simp[zds] at p3);rcases hk with hk | ⟨hk1,hk2⟩
 case inr=>exact swap_mk hk1 hk2 p1 p2 hne h1 h2
 have hkk:k.op.kind<=1:=by omega
 -- k at a state that differs from st as i makes it differ
 have kat:∀ (vk:AV) (x:ASt),(∀ y∈k.op.opds,st.ev y=x.ev y)->zbL x k.grd=zbL st k.grd->(k.op.kind=0∨Ext st.hp x.hp)->s1=st.putO k.dst vk->(∃ vk,s1=st.putO k.dst vk∧OpR M true k x (x.putO k.dst vk)):=by
  intro vk x hv hg he _;rcases h1 with ⟨g,v,st1,hs,e⟩ | ⟨g,e⟩
  ·obtain ⟨rfl,q⟩:=zaS hkk hs;exact ⟨v,e,.inl ⟨hg.trans g,v,x,q x hv he,rfl⟩⟩
  ·exact ⟨ud,e,.inr ⟨hg.trans g,rfl⟩⟩
 obtain ⟨vk,hs1⟩:∃ vk,s1=st.putO k.dst vk:=by
  rcases h1 with ⟨g,v,st1,hs,e⟩ | ⟨g,e⟩
  ·obtain ⟨rfl,q⟩:=zaS hkk hs;exact ⟨v,e⟩
  ·exact ⟨ud,e⟩
 have putinj:∀ v v':AV,st.putO k.dst v=st.putO k.dst v'->∀ y:ASt,y.putO k.dst v=y.putO k.dst v':=by
  intro v v' e y;cases hd:k.dst with
  | none=>rfl
  | some d =>rw[hd] at e;have:=congrArg (fun z:ASt=>z.fr d) e;simp only[ASt.putO,ASt.put,upd,if_true] at this;rw[this]
 have hgi:zbL s1 i.grd=zbL st i.grd:=by rw[hs1];exact yr p1
 have hev:∀ x∈i.op.opds,s1.ev x=st.ev x:=by rw[hs1];exact zaV p1
 have hhp:s1.hp=st.hp:=by rw[hs1];exact zak
 rcases h2 with ⟨g2,vi,sx,hs2,rfl⟩ | ⟨g2,rfl⟩
 ·by_cases hi:i.op.kind<=1
  ·obtain ⟨rfl,q⟩:=zaS hi hs2;refine ⟨st.putO i.dst vi,.inl ⟨hgi ▸ g2,vi,st,q st hev (.inr (hhp ▸ fun _ _ h=>h)),rfl⟩, ?_⟩;obtain ⟨vk',e',hk'⟩:=kat vk (st.putO i.dst vi) (fun y hy=>(zaV p2 y hy).symm) (yr p2) (.inr (by rw[zak];exact fun _ _ h=>h)) hs1;rw[e',zaw hne];exact hk'
  ·obtain ⟨hp',rfl,hf,q⟩:=zgC (by omega) hs2;refine ⟨(⟨st.fr,hp'⟩:ASt).putO i.dst vi,.inl ⟨hgi ▸ g2,vi,_,q st hhp.symm hev,rfl⟩, ?_⟩;obtain ⟨vk',e',hk'⟩:=kat vk ((⟨st.fr,hp'⟩:ASt).putO i.dst vi) (fun y hy=>by rw[zaV p2 y hy];cases y<;>rfl) (by rw[yr p2];exact gval_hp) (by
    by_cases h2:i.op.kind=2
    ·refine .inr ?_;rw[zak];intro s' b hb;exact hf h2 s' b (by rw[hhp];exact hb)
    ·exact .inl (by omega)) hs1
   have e3:(⟨s1.fr,hp'⟩:ASt)=(⟨st.fr,hp'⟩:ASt).putO k.dst vk':=by rw[e'];cases k.dst<;>rfl
   rw[e3,zaw hne];exact hk'
 ·refine ⟨st.putO i.dst ud,.inr ⟨hgi ▸ g2,rfl⟩, ?_⟩;obtain ⟨vk',e',hk'⟩:=kat vk (st.putO i.dst ud) (fun y hy=>(zaV p2 y hy).symm) (yr p2) (.inr (by rw[zak];exact fun _ _ h=>h)) hs1;rw[e',zaw hne];exact hk'
theorem front {M:Rets} {i:AOper} {R2:List AOper}:∀ (R1:List AOper) {st st':ASt},(∀ k∈R1,zcg k i=true)->OpsR M true (R1++i :: R2) st st'->∃ s1,OpR M true i st s1∧OpsR M true (R1++R2) s1 st'
 | [],st,st',_,h=>by
  cases h with
  | cv hq=>cases hq
  | cons h1 h2=>exact ⟨_,h1,h2⟩
 | k :: R1,st,st',hp,h=>by
  cases h with
  | cv hq=>cases hq
  | cons h1 h2 =>obtain ⟨s1,q1,q2⟩:=front R1 (fun x hx=>hp x (mem_cons_of_mem _ hx)) h2;obtain ⟨s1',q3,q4⟩:=swap (hp k mem_cons_self) h1 q1;exact ⟨s1',q3,.cons q4 q2⟩
theorem OpR.loud {M:Rets} {o:AOper} {st st':ASt} (h:OpR M true o st st'):OpR M false o st st':=by
 rcases h with ⟨g,v,st1,hs,e⟩ | h
 ·refine .inl ⟨g,v,st1, ?_,e⟩;generalize o.op=op at hs;cases op with
  | call frz muts f args =>
   simp only[qX,true_and] at hs;simp only[qX,false_eq_true,false_and,if_false];split at hs
   ·rename_i hm;subst hm;obtain ⟨rfl,hc⟩:=hs;exact hc.loud
   ·exact hs
  | calld frz x args =>
   simp only[qX,if_true] at hs;simp only[qX,false_eq_true,if_false];split at hs
   ·obtain ⟨rfl,hc⟩:=hs;exact hc.loud
   ·exact hs.elim
  | _=>exact hs
 ·exact .inr h
end
section
open Go Go.RowKit
theorem zdU (acc:List Nat) (k:Nat):∀ (l:List Nat) (s:Nat),(l.foldl (fun s j=>s ||| (2 ^ j ||| acc.getD j 0)) s).testBit k=true->s.testBit k=true∨∃ j∈l,k=j∨(acc.getD j 0).testBit k=true
 | [],s,h=>.inl h
 | j :: l,s,h=>by
  simp only[List.foldl_cons] at h;rcases zdU acc k l _ h with h | ⟨j',h1,h2⟩
  ·simp only[Nat.testBit_or,or_eq_true] at h;rcases h with h | h | h
   ·exact .inl h
   ·refine .inr ⟨j,mem_cons_self,.inl ?_⟩;rw[Nat.testBit_two_pow] at h;exact (of_decide_eq_true h).symm
   ·exact .inr ⟨j,mem_cons_self,.inr h⟩
  ·exact .inr ⟨j',mem_cons_of_mem _ h1,h2⟩
def zdj (acc:List Nat) (o:AOper):List Nat:=acc++[o.aft.foldl (fun s j=>s ||| (2 ^ j ||| acc.getD j 0)) 0]
def zix (l:List AOper) (b:List Nat) (n:Nat):Prop:=b.length=n∧∀ (i k:Nat) (o:AOper),i < n->l[i]? = some o->(b.getD i 0).testBit k=true->∃ j∈o.aft,k=j∨(j < i∧(b.getD j 0).testBit k=true)
theorem w8 (l:List AOper):∀ (r p:List AOper) (acc:List Nat),l=p++r->(∀ (i j:Nat) (o:AOper),l[i]? = some o->j∈o.aft->j < i)->zix l acc p.length->zix l (r.foldl zdj acc) l.length
 | [],p,acc,h,_,hc=>by
  simp only[List.append_nil] at h;subst h;exact hc
 | o :: r,p,acc,h,ha,hc=>by
  have h':l=(p++[o])++r:=by rw[h];simp
  refine w8 l r (p++[o]) _ h' ha ⟨by simp[zdj,hc.1],fun i k o' hi ho hb => ?_⟩;have hlen:=hc.1;by_cases hlt:i < p.length
  ·have e:(zdj acc o).getD i 0=acc.getD i 0:=(by simp only[zdj,List.getD_eq_getElem?_getD];rw[List.getElem?_append_left (by omega)]);rw[e] at hb;obtain ⟨j,h1,h2⟩:=hc.2 i k o' hlt ho hb;refine ⟨j,h1,h2.imp id fun ⟨h3,h4⟩=>⟨h3, ?_⟩⟩;have e2:(zdj acc o).getD j 0=acc.getD j 0:=(by simp only[zdj,List.getD_eq_getElem?_getD];rw[List.getElem?_append_left (by omega)]);rw[e2];exact h4
  ·have hi':i=p.length:=by simp at hi;omega
   subst hi';have ho':o'=o:=(by rw[h] at ho;simp at ho;exact ho.symm);subst ho';have e:(zdj acc o').getD p.length 0=o'.aft.foldl (fun s j=>s ||| (2 ^ j ||| acc.getD j 0)) 0:=(by simp only[zdj,List.getD_eq_getElem?_getD];rw[List.getElem?_append_right (by omega)];simp[hlen]);rw[e] at hb;rcases zdU acc k _ _ hb with hb | ⟨j,h1,h2⟩
   ·simp at hb
   ·have hj:=ha p.length j o' (by rw[h];simp) h1;refine ⟨j,h1,h2.imp id fun h3=>⟨hj, ?_⟩⟩;have e2:(zdj acc o').getD j 0=acc.getD j 0:=(by simp only[zdj,List.getD_eq_getElem?_getD];rw[List.getElem?_append_left (by omega)]);rw[e2];exact h3
theorem zfA {f:Nat->Nat->Bool}:∀ {l:List Nat},zhM f l=true->l.Pairwise fun a b=>f a b=true
 | [],_=>.nil
 | a :: r,h=>by
  simp only[zhM,and_eq_true,all_eq_true] at h;exact .cons h.1 (zfA h.2)
theorem zgc {l:List AOper} (h:zeH l=true) :
  (∀ (i j:Nat) (o:AOper),l[i]? = some o->j∈o.aft->j < i)∧(∀ i,i∈zhb l↔i < l.length) ∧
  (zhb l).Pairwise fun k i=>k≠i∧∀ (p o:AOper),l[k]? = some p->l[i]? = some o->i ∉ p.aft∧(((wz l).getD i 0).testBit k=true∨zcg p o=true):=by
 simp only[zeH,and_eq_true] at h;obtain ⟨⟨⟨h1,h2⟩,h3⟩,h4⟩:=h;refine ⟨fun i j o ho hj => ?_,fun i=>⟨fun hi => ?_,fun hi => ?_⟩,(zfA h4).imp fun {k i} hp => ?_⟩
 ·have hlt:i < l.length:=(List.getElem?_eq_some_iff.1 ho).1;have:=all_eq_true.1 h1 i (mem_range.2 hlt);rw[ho] at this;simpa[blt_eq] using all_eq_true.1 this j hj
 ·simpa[blt_eq] using all_eq_true.1 h2 i hi
 ·have:=all_eq_true.1 h3 i (mem_range.2 hi);simpa[contains_eq_mem] using this
 ·simp only[zic,and_eq_true,not_eq_true'] at hp;refine ⟨fun e => ?_,fun p o hk hi => ?_⟩
  ·subst e;have:=hp.1;simp at this
  ·have:=hp.2;rw[hk,hi] at this;simp only[and_eq_true,not_eq_true',or_eq_true,contains_eq_mem,decide_eq_false_iff_not] at this;exact this
theorem zeV {l:List AOper} (hc:zix l (wz l) l.length) {L:Nat->Prop} (hL:∀ (i j:Nat) (o:AOper),L i->l[i]? = some o->j∈o.aft->L j) (hl:∀ (i j:Nat) (o:AOper),l[i]? = some o->j∈o.aft->j < i) :
  ∀ (n i k:Nat) (o:AOper),i < n->l[i]? = some o->(∀ j∈o.aft,L j)->((wz l).getD i 0).testBit k=true->L k:=by
 intro n
 induction n with
 | zero=>intro i k o hi;omega
 | succ n ih =>
  intro i k o hi ho ha hb;obtain ⟨j,h1,h2⟩:=hc.2 i k o (List.getElem?_eq_some_iff.1 ho).1 ho hb;rcases h2 with rfl | ⟨h3,h4⟩
  ·exact ha _ h1
  ·have hj:j < l.length:=Nat.lt_trans h3 (List.getElem?_eq_some_iff.1 ho).1;exact ih j k l[j] (by omega) (getElem?_eq_getElem hj) (fun j' hj'=>hL j j' l[j] (ha j h1) (getElem?_eq_getElem hj) hj') h4
theorem zcl:∀ (l r:List Nat),l.Nodup->(∀ x∈l,x∈r)->l.length<=r.length
 | [],r,_,_=>Nat.zero_le _
 | a :: l,r,hn,h=>by
  have ha:=h a mem_cons_self;obtain ⟨h1,h2⟩:=List.nodup_cons.1 hn;have:=zcl l (r.erase a) h2 fun x hx=>(List.mem_erase_of_ne (show x≠a from fun e=>by subst e;exact h1 hx)).2 (h x (mem_cons_of_mem _ hx));rw[List.length_erase_of_mem ha] at this;have hr:0 < r.length:=List.length_pos_of_mem ha;simp only[List.length_cons];omega
theorem nodup_le (n:Nat) (l:List Nat) (hn:l.Nodup) (h:∀ x∈l,x < n):l.length<=n:=by have:=zcl l (List.range n) hn fun x hx=>mem_range.2 (h x hx);simpa using this
theorem zgj {S:Seat} {nt:Nat} {ops:Array Oper} {o:Oper} {a:AOper} (h:zeS S nt ops true o=some a):a.aft=(o.after.toList.filter (Region.binds .any)).map (·.on):=by
 unfold zeS at h;split at h
 ·split at h
  ·cases h;rfl
  ·cases h
 ·cases h
theorem ziX {listed:Array Bool} {i j:Nat} (hi:i < listed.size):(listed.setIfInBounds i true).getD j true=if j=i then true else listed.getD j true:=by
 simp only[getD_eq_getD_getElem?,Array.getElem?_setIfInBounds];by_cases h:i=j
 ·subst h;simp[hi]
 ·rw[if_neg h,if_neg (fun e=>h e.symm)]
theorem mem_ready {ops:Array Oper} {listed:Array Bool} {i:Nat}:i∈Region.ready .any ops listed↔i < ops.size∧listed.getD i true=false∧∃ o,ops[i]? = some o∧∀ e∈o.after,Region.binds .any e=true->listed.getD e.on false=true:=by
 simp only[Region.ready,mem_filter,mem_range,and_eq_true,not_eq_true'];constructor
 ·rintro ⟨h1,h2,h3⟩;refine ⟨h1,h2,ops[i],Array.getElem?_eq_getElem h1,fun e he hb => ?_⟩;rw[Array.getElem?_eq_getElem h1] at h3;simp only[map_some,Option.getD_some,Array.all_eq_true'] at h3;have:=h3 e he;simpa[hb] using this
 ·rintro ⟨h1,h2,o,h3,h4⟩;refine ⟨h1,h2, ?_⟩;rw[h3];simp only[map_some,Option.getD_some,Array.all_eq_true'];intro e he;cases hb:Region.binds .any e with
  | false=>simp
  | true=>simp[h4 e he hb]
theorem drawOk {S:Seat} (hS:zO S):jT S:=by
 intro A0 O w0 nt ops la id st st' A σ w tm Q hla hdst hm hchk hr h hn hk;obtain ⟨spec1,spec3,spec2⟩:=zgc hchk;have hcl:zix la (wz la) la.length:=w8 la la [] [] rfl spec1 ⟨rfl,fun i k o hi=>by simp at hi⟩;obtain ⟨l1,l2⟩:=zy hla;have l1':la.length=ops.size:=by simpa using l1.symm
 refine wp_region_any hm ?_
 have key:∀ (n:Nat) (R:List Nat) (listed:Array Bool) (st:ASt) (A:Nat->Prop) (σ:Nat->Option Nat) (w:World) (tm:Array Value),R.length=n->listed.size=ops.size->R.Pairwise (fun k i=>k≠i∧∀ (p o:AOper),la[k]? = some p->la[i]? = some o->i ∉ p.aft∧(((wz la).getD i 0).testBit k=true∨zcg p o=true))->(∀ i,i∈R↔i < ops.size∧listed.getD i true=false) ->
   (∀ (i j:Nat) (o:AOper),(i < la.length∧i ∉ R)->la[i]? = some o->j∈o.aft->(j < la.length∧j ∉ R))->OpsR (za S) true (R.map fun i=>la.getD i dOp) st st'->wX S A0 O w0 A σ w st tm->tm.size=nt->wpAny S.P .any ops Q n listed ⟨tm,[]⟩ w:=by
  intro n
  induction n with
  | zero =>
   intro R listed st A σ w tm hlen hsz hpw hmem hcl' hr h hn;have hR:R=[]:=List.length_eq_zero_iff.1 hlen;subst hR;simp only[List.map_nil] at hr;cases hr with
   | cv hq=>cases hq
   | nil =>
   refine ⟨?_,hk w A σ tm h hn⟩;refine List.eq_nil_iff_forall_not_mem.2 fun i hi => ?_;obtain ⟨h1,h2,_⟩:=mem_ready.1 hi;exact absurd ((hmem i).2 ⟨h1,h2⟩) (by simp)
  | succ n ih =>
   intro R listed st A σ w tm hlen hsz hpw hmem hcl' hr h hn;have notin:∀ j,j < ops.size->j ∉ R->listed.getD j true=true∧listed.getD j false=true:=by
    intro j hj hjR;have h1:listed.getD j true=true:=by
     cases hq:listed.getD j true with
     | true=>rfl
     | false=>exact absurd ((hmem j).2 ⟨hj,hq⟩) hjR
    refine ⟨h1, ?_⟩;have hj':j < listed.size:=by omega
    simp only[Array.getD,hj',dif_pos] at h1 ⊢;exact h1
   refine ⟨fun hnil => ?_,fun i hi => ?_⟩
   ·exfalso
    match R,hlen,hpw,hmem with
    | i :: R,_,hpw,hmem =>
     have hi:=(hmem i).1 mem_cons_self;have hmr:i∈Region.ready .any ops listed:=by
      refine mem_ready.2 ⟨hi.1,hi.2,ops[i],Array.getElem?_eq_getElem hi.1,fun e he hb => ?_⟩;have hla':la[i]? = some (la[i]'(by omega)):=getElem?_eq_getElem _;obtain ⟨o,ho,hc⟩:=l2 i _ hla';have ho':o=ops[i]:=by simpa[hi.1] using ho.symm
      subst ho';have haft:=zgj hc;have hj:e.on∈(la[i]'(by omega)).aft:=(by rw[haft];exact mem_map.2 ⟨e,mem_filter.2 ⟨by simpa using he,hb⟩,rfl⟩);have hlt:=spec1 i e.on _ hla' hj;refine (notin e.on (by omega) fun hm => ?_).2;rcases mem_cons.1 hm with hm | hm
      ·omega
      ·have hel:e.on < la.length:=by omega
       exact ((List.rel_of_pairwise_cons hpw hm).2 _ _ hla' (getElem?_eq_getElem hel)).1 hj
     rw[hnil] at hmr;cases hmr
   ·obtain ⟨h1,h2,o,ho,haft⟩:=mem_ready.1 hi;have hiR:i∈R:=(hmem i).2 ⟨h1,h2⟩;obtain ⟨R1,R2,rfl⟩:=List.append_of_mem hiR;have hla':la[i]? = some (la[i]'(by omega)):=getElem?_eq_getElem _;obtain ⟨o',ho',hc⟩:=l2 i _ hla';have:o'=o:=by simpa[ho] using ho'.symm
    subst this;have haL:∀ j∈(la[i]'(by omega)).aft,j < la.length∧j ∉ R1++i :: R2:=by
     intro j hj;rw[zgj hc] at hj;obtain ⟨e,he,rfl⟩:=mem_map.1 hj;obtain ⟨he1,he2⟩:=mem_filter.1 he;have hl:=haft e (by simpa using he1) he2;have hlt:e.on < listed.size:=by
      refine Nat.lt_of_not_le fun hge => ?_;have hge':¬ e.on < listed.size:=by omega
      simp[Array.getD,hge'] at hl
     refine ⟨by omega,fun hm => ?_⟩;have:=((hmem _).1 hm).2;simp only[Array.getD,hlt,dif_pos] at this hl;rw[this] at hl;cases hl
    have hpw':=List.pairwise_append.1 hpw;have hpairs:∀ k∈R1,zcg (la.getD k dOp) (la.getD i dOp)=true:=by
     intro k hkR;have hki:=hpw'.2.2 k hkR i mem_cons_self;have hkl:k < la.length:=(by have:=((hmem k).1 (mem_append.2 (.inl hkR))).1;omega);have e1:la.getD k dOp=la[k]:=by simp[List.getD,hkl]
     have e2:la.getD i dOp=la[i]'(by omega):=by simp[List.getD,l1',h1]
     rw[e1,e2];rcases (hki.2 _ _ (getElem?_eq_getElem hkl) hla').2 with hb | hb
     ·have:=zeV hcl (L:=fun i'=>i' < la.length∧i' ∉ R1++i :: R2) hcl' spec1 (i+1) i k _ (by omega) hla' haL hb;exact absurd (mem_append.2 (.inl hkR)) this.2
     ·exact hb
    rw[List.map_append,List.map_cons] at hr;obtain ⟨s1,q1,q2⟩:=front (R1.map fun i=>la.getD i dOp) (fun k hk=>by
     obtain ⟨k',hk',rfl⟩:=mem_map.1 hk;exact hpairs k' hk') hr
    have e2:la.getD i dOp=la[i]'(by omega):=by simp[List.getD,l1',h1]
    rw[e2] at q1;refine zdK hS h hn ho hc q1.loud fun w' A' σ' tm' k1 k2 => ?_;have hnot:i ∉ R1∧i ∉ R2:=by
     refine ⟨fun hm => ?_,fun hm => ?_⟩
     ·exact (hpw'.2.2 i hm i mem_cons_self).1 rfl
     ·exact (List.rel_of_pairwise_cons hpw'.2.1 hm).1 rfl
    refine ih (R1++R2) _ s1 A' σ' w' tm' (by simp at hlen ⊢;omega) (by simpa using hsz) ?_ ?_ ?_ (by rw[List.map_append];exact q2) k1 k2
    ·exact List.pairwise_append.2 ⟨hpw'.1,(List.pairwise_cons.1 hpw'.2.1).2,fun a ha b hb=>hpw'.2.2 a ha b (mem_cons_of_mem _ hb)⟩
    ·intro j;rw[ziX (by omega)];have:=hmem j;simp only[mem_append,mem_cons] at this ⊢;by_cases hji:j=i
     ·subst hji;simp[hnot.1,hnot.2]
     ·rw[if_neg hji,← this];simp[hji]
    ·intro i' j o2 hL hla2 hj;by_cases hii:i'=i
     ·subst hii;rw[hla'] at hla2;cases hla2;have:=haL j hj;refine ⟨this.1,fun hm=>this.2 ?_⟩;simp only[mem_append,mem_cons] at hm ⊢;exact hm.imp (fun h=>h) .inr
     ·have:=hcl' i' j o2 ⟨hL.1,fun hm=>hL.2 ?_⟩ hla2 hj
      ·refine ⟨this.1,fun hm=>this.2 ?_⟩;simp only[mem_append,mem_cons] at hm ⊢;exact hm.imp (fun h=>h) .inr
      ·simp only[mem_append,mem_cons] at hm ⊢;exact hm.imp (fun h=>h) fun h=>h.resolve_left hii
 have hlenR:∀ (R:List Nat) (n:Nat),R.Nodup->(∀ i,i∈R↔i < n)->R.length=n:=(by intro R n hnd hR;have h1:R.length<=n:=(by have:=nodup_le n R hnd fun x hx=>(hR x).1 hx;exact this);have h2:n<=R.length:=(by have:=zcl (List.range n) R List.nodup_range fun x hx=>(hR x).2 (mem_range.1 hx);simpa using this);omega);refine key ops.size (zhb la) _ st A σ _ tm (hlenR _ _ (spec2.imp fun {a b} h=>h.1) fun i=>by rw[spec3,l1']) (by simp) spec2 ?_ ?_ hr (let ⟨w1,r1,j1,h1⟩:=h;⟨w1,r1,j1,h1.drew⟩) hn
 ·intro i;rw[spec3,l1'];refine ⟨fun hi=>⟨hi,by simp[Array.getD,hi]⟩,fun hi=>hi.1⟩
 ·intro i j o hi;exact absurd ((spec3 i).2 hi.1) hi.2
end
section
open Go Go.RowKit
theorem law_calls {S:Seat} {g id:Nat} (hg:zV g S.fns=some id) {args:List AV} (h:(za S).ret id args (.v (.bool true)) []) {A:Nat->Prop} {w:World} {vs:Array Value} (hl:vs.size=args.length) (hA:(∀ b,A b->b < w.heap.size)∧Inv S w)
  (ha:∀ (i:Nat) (x:AV),args[i]? = some x->VR0 S A w x (vs.getD i undef)) (h1:∀ b,¬ S.jg b:=by exact fun _ h=>h) (h2:∀ w,S.jn w:=by exact fun _=>trivial):Calls S.P g vs w fun e w'=>e=.returned (.bool true)∧Below w.heap.size w w':=by
 have hno:∀ x∈args,zp x=false:=fun x hx=>(by obtain ⟨i,hi⟩:=List.mem_iff_getElem?.1 hx;have:=ha i x hi;generalize vs.getD i undef=v at this;cases this<;>rfl);refine ((h g hg).old hno A w vs hl hA (.none h1 h2 _ _ _) ha).mono fun e w' ⟨v,he,hk,_,hr⟩ => ?_;obtain ⟨β,_,_,_,hv⟩:=hr;have:v=.bool true:=(VR.of0 (σ:=fun _=>none) hv).v_inv;subst this;exact ⟨he,⟨hk.os,hk.tape,hk.output,hk.size,fun k hk'=>hk.block k hk' (h1 k)⟩⟩
end
end Ab
