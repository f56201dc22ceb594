import Derived.Test.YtckaniphjiniiaaGreatDoorA2
import Derived.Orders
import Derived.Below
set_option linter.all false
namespace Ab
open Go
section
open Go Go.RowKit
section
variable {S:Seat} {A0:Nat->Prop} {O:Hnd} {w0:World} {A:Nat->Prop} {σ:Nat->Option Nat} {w:World} {st aa:ASt} {tm:Array Value} {df:List Deferred} {o:Oper} {v:AV} {d:Nat}
def zeZ {P:Program} {t:TypeId} {f:Nat} {fl:Field} (h:iA P t f=some fl):∃fs,P.underlying t=some (.struct fs)∧fs[f]? = some fl:=by
 unfold iA at h;split at h
 ·rename_i fs hu;exact⟨fs,hu,h⟩
 ·cases h
def op_binOp (h:SRel S A0 O w0 A σ w st tm) {op:BinOp} {t u:TypeId} {x y:Operand} (ho:o.op=.binOp op t x y u) {a:AOp} (hc:cBin S op t x y=some a) (ha:aop a d st=some (v,aa)):w7 S A0 O w0 w tm df o v aa:=by
 unfold cBin at hc;split at hc
 ·rename_i k x' y' hu hx hy;have:a=.bin .int op x' y':=by cases op<;>simp at hc<;>exact hc.symm
  subst this;exact op_bin h ho (fun e=>by cases e) hx hy ha
 ·rename_i x' y' hu hx hy;have:a=.bin .str op x' y':=by cases op<;>simp at hc<;>exact hc.symm
  subst this;exact op_bin h ho (fun e=>by cases e) hx hy ha
 ·rename_i x' y' hu hx hy;have:a=.bin .bool op x' y':=by cases op<;>simp at hc<;>exact hc.symm
  subst this;exact op_bin h ho (fun _=>hu) hx hy ha
 ·rename_i fs x' y' hu hx hy;split at hc
  ·rename_i hg;split at hc
   ·rename_i l _ hl;cases hc;exact op_eqa (neg:=false) h (by simpa using ho) hu hg.1 hg.2 (by assumption) hx hy ha
   ·rename_i l _ hl;cases hc;exact op_eqa (neg:=true) h (by simpa using ho) hu hg.1 hg.2 (by assumption) hx hy ha
   ·cases hc
  ·cases hc
 ·rename_i ms x' y' hu hx hy;split at hc
  ·split at hc
   ·cases hc;rename_i hn;exact zgS (neg:=false) (z:=x) h (by simpa using ho) hu (.inl ⟨rfl,hn⟩) hx ha
   ·split at hc
    ·cases hc;rename_i hn;exact zgS (neg:=false) (z:=y) h (by simpa using ho) hu (.inr ⟨rfl,hn⟩) hy ha
    ·cases hc
  ·split at hc
   ·cases hc;rename_i hn;exact zgS (neg:=true) (z:=x) h (by simpa using ho) hu (.inl ⟨rfl,hn⟩) hx ha
   ·split at hc
    ·cases hc;rename_i hn;exact zgS (neg:=true) (z:=y) h (by simpa using ho) hu (.inr ⟨rfl,hn⟩) hy ha
    ·cases hc
  ·cases hc
 ·rename_i e x' y' hu hx hy;split at hc
  ·cases hc;exact op_eqnS (neg:=false) h (by simpa using ho) hu hx ha
  ·cases hc;exact op_eqnS (neg:=true) h (by simpa using ho) hu hx ha
  ·cases hc
 ·cases hc
def op_conv (h:SRel S A0 O w0 A σ w st tm) {s t:TypeId} {x:Operand} (ho:o.op=.convert s t x) {a:AOp} (hc:zkv S s t x=some a) (ha:aop a d st=some (v,aa)):w7 S A0 O w0 w tm df o v aa:=by
 unfold zkv at hc;split at hc
 ·rename_i k0 k x' hs ht hx;cases hc;exact op_cvi h ho hs ht hx ha
 ·rename_i e x' hs ht hx;split at hc
  ·rename_i he hz;cases hc;exact op_cvs (i:=default) h ho hs ht he hx ha
  ·cases hc
 ·cases hc
def zmk (h:SRel S A0 O w0 A σ w st tm) {c:Call} (ho:o.op=.call c) {a:AOp} (hc:zhr S c o.type=some a) (ha:aop a d st=some (v,aa)):w7 S A0 O w0 w tm df o v aa:=by
 obtain⟨callee,args,tys⟩:=c;unfold zhr at hc;split at hc
 ·split at hc
  ·cases hc;simp[aop] at ha
  ·cases hc
 ·split at hc
  ·cases hc;simp[aop] at ha
  ·cases hc
 ·rename_i bR;simp only at bR;subst bR;split at hc
  ·rename_i x t hx ht;have hargs:args=#[x]:=by simpa using congrArg List.toArray hx
   have iG:tys=#[t]:=by simpa using congrArg List.toArray ht
   subst hargs;subst iG;split at hc
   ·rename_i hu;simp only[Ag] at hc;obtain⟨x',bq,rfl⟩:=hc;exact op_lenS h ho hu bq ha
   ·rename_i e hu;simp only[Ag] at hc;obtain⟨x',bq,rfl⟩:=hc;exact op_len h ho hu bq ha
   ·cases hc
  ·cases hc
 ·rename_i bR;simp only at bR;subst bR;split at hc
  ·rename_i x y t u hx ht;have hargs:args=#[x,y]:=by simpa using congrArg List.toArray hx
   have iG:tys=#[t,u]:=by simpa using congrArg List.toArray ht
   subst hargs;subst iG;split at hc
   ·rename_i e z zs x' y' he hz bq fG;split at hc
    ·rename_i htu;subst htu;cases hc;obtain⟨hu,i,hi,aF,h0,h1,h2⟩:=yu he;rw[he] at hz;obtain⟨i',zv,k1,k2,k3,k4,k5,k6⟩:=yt hz;simp only[A7] at k1;obtain rfl:i'=i:=Option.some.inj (k1.symm.trans hi);simp only at aF;subst aF;exact op_app h ho hu hi k2 k4 h2 bq fG ha
    ·cases hc
   ·cases hc
  ·cases hc
 ·rename_i bR;simp only at bR;subst bR;split at hc
  ·rename_i x y hx;have hargs:args=#[x,y]:=by simpa using congrArg List.toArray hx
   subst hargs;split at hc
   ·rename_i x' y' bq fG;cases hc;exact op_max h ho bq fG ha
   ·cases hc
  ·cases hc
 ·cases hc
def op_all (h:SRel S A0 O w0 A σ w st tm) {a:AOp} (hc:cOp S o.op o.type=some a) (ha:aop a d st=some (v,aa)):w7 S A0 O w0 w tm df o v aa:=by
 unfold cOp at hc;split at hc
 ·rename_i x ho;simp only[Ag] at hc;obtain⟨x',hx,rfl⟩:=hc;exact op_mov h (.inl ho) hx ha
 ·rename_i x ho;simp only[Ag] at hc;obtain⟨x',hx,rfl⟩:=hc;exact op_mov h (.inr ho) hx ha
 ·rename_i e x ho;simp only[Ag] at hc;obtain⟨x',hx,rfl⟩:=hc;exact op_box h ho hx ha
 ·rename_i e ho;simp only[Ag] at hc;obtain⟨z,hz,rfl⟩:=hc;exact op_alloc h ho hz ha
 ·rename_i t ps ho;split at hc
  ·rename_i fs zero l hu hz hl;split at hc
   ·rename_i szs hs;cases hc;exact op_build h ho hu hz hl hs ha
   ·cases hc
  ·cases hc
 ·rename_i t len ps ho;split at hc
  ·rename_i e z zero l he hz hl;split at hc
   ·rename_i hlen;cases hc;obtain⟨hu,i,hi,aF,h0,h1,h2⟩:=yu he;rw[he] at hz;obtain⟨i',zv,k1,k2,k3,k4,k5,k6⟩:=yt hz;simp only[A7] at k1;obtain rfl:i'=i:=Option.some.inj (k1.symm.trans hi);simp only at aF;subst aF;subst k3;exact op_bslice h ho hu hi k2 k4 h0 h1 k6 hl hlen ha
   ·cases hc
  ·cases hc
 ·rename_i t x ho;split at hc
  ·rename_i n x' hn hx;cases hc;exact op_load h ho hn hx ha
  ·cases hc
 ·rename_i t a' x ho;split at hc
  ·rename_i z a2 x2 hz h1 h2;cases hc;exact op_store h ho hz h1 h2 ha
  ·cases hc
 ·rename_i x ho;simp only[Ag] at hc;obtain⟨x',hx,rfl⟩:=hc;exact op_chk h ho hx ha
 ·rename_i op t x y u ho;exact op_binOp h ho hc ha
 ·rename_i op t x ho;split at hc
  ·simp only[Ag] at hc;obtain⟨x',hx,rfl⟩:=hc;exact op_un h ho hx ha
  ·simp only[Ag] at hc;obtain⟨x',hx,rfl⟩:=hc;exact op_un h ho hx ha
  ·cases hc
 ·rename_i s t x ho;exact op_conv h ho hc ha
 ·rename_i t x ho;split at hc
  ·rename_i k x' i hk hx hu;cases hc;exact op_ifc h ho hx hk (.inl ⟨i,hu⟩) ha
  ·rename_i k x' fs hk hx hu;cases hc;exact op_ifc h ho hx hk (.inr ⟨fs,hu⟩) ha
  ·cases hc
 ·rename_i f first caps ho
  split at hc
  ·rename_i hf;split at hc
   ·rename_i id l hid hl;cases hc;exact op_mkfn h ho hf hid hl ha
   ·cases hc
  ·cases hc
 ·rename_i t l c ho;split at hc
  ·rename_i e z zero l' c' he hz hl fh;cases hc;obtain⟨hu,i,hi,aF,h0,h1,h2⟩:=yu he;rw[he] at hz;obtain⟨i',zv,k1,k2,k3,k4,k5,k6⟩:=yt hz;simp only[A7] at k1;obtain rfl:i'=i:=Option.some.inj (k1.symm.trans hi);simp only at aF;subst aF;subst k3;exact op_mksl h ho hu hi k2 k4 h0 h2 k6 hl fh ha
  ·cases hc
 ·rename_i t x lo hi ho;split at hc
  ·rename_i x' fu aQ hu hx fO pR;cases hc;exact op_slcS h ho hu hx fO pR ha
  ·rename_i e0 x' fu aQ hu hx fO pR;split at hc
   ·rename_i e z he;cases hc;obtain⟨kV,i,hi2,aF,h0,h1,h2⟩:=yu he;simp only at aF;subst aF;exact op_slc h ho kV hi2 h0 hx fO pR ha
   ·cases hc
  ·cases hc
 ·rename_i t x f ho;split at hc
  ·rename_i fl x' hf hx;split at hc
   ·rename_i n hn;split at hc
    ·rename_i h0;cases hc;obtain⟨fs,hu,lj⟩:=zeZ hf;exact op_fa h ho hu lj hn h0 hx ha
    ·cases hc
   ·cases hc
  ·cases hc
 ·rename_i t x f ho;split at hc
  ·rename_i fl x' hf hx;split at hc
   ·rename_i n hn;cases hc;obtain⟨fs,hu,lj⟩:=zeZ hf;exact op_fld h ho hu lj hn hx ha
   ·cases hc
  ·cases hc
 ·rename_i t x i ho;split at hc
  ·rename_i e z x' i' he hx hi;cases hc;obtain⟨hu,inf,pN,aF,h0,h1,h2⟩:=yu he;simp only at aF;subst aF;exact op_ia h ho hu pN hx hi ha
  ·cases hc
 ·rename_i t x i ho;split at hc
  ·rename_i x' i' hu hx hi;cases hc;exact op_ix h ho hu hx hi ha
  ·cases hc
 ·rename_i x i ho;simp only[Ag] at hc;obtain⟨x',hx,rfl⟩:=hc;exact op_ext h ho hx ha
 ·rename_i c a' b ho;split at hc
  ·rename_i c' a2 b2 h1 h2 h3;cases hc;exact op_pick h ho h1 h2 h3 ha
  ·cases hc
 ·rename_i c ho;exact zmk h ho hc ha
 ·cases hc
end
end
section
open Go Go.RowKit
def exOf:AExit->Exit
 | .norm=>.normal
 | .exit id=>.exit id
 | .ret=>.ret
def Post (S:Seat) (A0:Nat->Prop) (O:Hnd) (w0:World) (nt:Nat) (e:AExit) (aa:ASt):Exit->Act->World->Prop :=
 fun ex a w'=>ex=exOf e∧a.defers=[]∧a.tmps.size=nt∧∃A' σ',zbd S A0 O w0 A' σ' w' aa a.tmps
section
variable {S:Seat} {A0:Nat->Prop} {O:Hnd} {w0:World} {A:Nat->Prop} {σ:Nat->Option Nat} {w:World} {st aa:ASt} {tm:Array Value} {df:List Deferred} {o:Oper} {v:AV} {d:Nat} {nt:Nat}
def zmH {ops:Array Oper} {draw:Bool} {o:Oper} {a:AOper} (h:zhq S nt ops draw o=some a):(∃eV,cOp S o.op o.type=some eV∧(a.op=eV∨∃lt,a.op=noFrz S lt eV))∧a.dst=o.dst∧(∀d,o.dst=some d->d<nt∧d<1000) ∧
  (match o.guard with|none=>a.grd=none|some (j,want)=>∃t,(ops[j]?).bind (·.dst)=some t∧a.grd=some (t,want)):=by
 unfold zhq at h;split at h
 ·rename_i op g h1 h2;split at h
  ·rename_i hd;cases h;refine⟨⟨op,h1,by cases draw;exact .inl rfl;exact .inr ⟨_,rfl⟩⟩,rfl,fun d ka => ?_, ?_⟩
   ·rw[ka] at hd;simpa[dstB] using hd
   ·split at h2
    ·rename_i hg;cases h2;rw[hg]
    ·rename_i j want hg;rw[hg];simp only[Ag] at h2;obtain⟨t,h3,rfl⟩:=h2;exact⟨t,h3,rfl⟩
  ·cases h
 ·cases h
def zaq:AOp->Bool
 | .call _ _ _ _ | .calld _ _ _=>true
 | _=>false
def isB:AOp->Bool
 | .bslice _ _ _ _ _=>true
 | _=>false
def cBin_nb {op:BinOp} {t:TypeId} {x y:Operand} {a:AOp} (h:cBin S op t x y=some a):isB a=false:=by
 unfold cBin at h
 repeat' split at h
 all_goals (first|(cases h;rfl)|cases h)
def cConv_nb {s t:TypeId} {x:Operand} {a:AOp} (h:zkv S s t x=some a):isB a=false:=by
 unfold zkv at h
 repeat' split at h
 all_goals (first|(cases h;rfl)|cases h)
def map_nb {α:Type} {x:Option α} {f:α->AOp} {a:AOp} (h:x.map f=some a) (hf:∀y,isB (f y)=false):isB a=false:=by simp only[Ag] at h;obtain⟨y,_,rfl⟩:=h;exact hf y
def cCall_nb {c:Call} {ty:TypeId} {a:AOp} (h:zhr S c ty=some a):isB a=false:=by
 unfold zhr at h
 repeat' split at h
 all_goals (first|(cases h;rfl)|cases h|exact map_nb h fun _=>rfl)
def cBin_nc {op:BinOp} {t:TypeId} {x y:Operand} {a:AOp} (h:cBin S op t x y=some a):zaq a=false:=by
 unfold cBin at h
 repeat' split at h
 all_goals (first|(cases h;rfl)|cases h)
def cConv_nc {s t:TypeId} {x:Operand} {a:AOp} (h:zkv S s t x=some a):zaq a=false:=by
 unfold zkv at h
 repeat' split at h
 all_goals (first|(cases h;rfl)|cases h)
def map_nc {α:Type} {x:Option α} {f:α->AOp} {a:AOp} (h:x.map f=some a) (hf:∀y,zaq (f y)=false):zaq a=false:=by simp only[Ag] at h;obtain⟨y,_,rfl⟩:=h;exact hf y
def zlH {o:Op} {ty:TypeId} {a:AOp} (h:cOp S o ty=some a) (ha:zaq a=true):∃c,o=.call c∧zhr S c ty=some a:=by
 have no:zaq a=false->∃c,o=.call c∧zhr S c ty=some a:=fun h=>by rw[ha] at h;cases h
 unfold cOp at h;split at h
 case h_23=>exact⟨_,rfl,h⟩
 all_goals apply no
 all_goals first
  | exact cBin_nc h
  | exact cConv_nc h
  | exact map_nc h fun _=>rfl
  | ((repeat' split at h)<;>(first|(cases h;rfl)|cases h|exact map_nc h fun _=>rfl))
def op_lit' (h:SRel S A0 O w0 A σ w st tm) {frz:Bool} {z:Nat} {zero:List Value} {len:Nat} {ps:List (Nat×AOpd)} (hc:cOp S o.op o.type=some (.bslice frz z zero len ps)) (ha:aop (.lit z zero len ps) d st=some (v,aa)):w7 S A0 O w0 w tm df o v aa:=by
 generalize dO:o.op=op at hc;have no:∀ {x:Option AOp},x=some (.bslice frz z zero len ps)->(∀a,x=some a->isB a=false)->False:=fun h1 h2=>(by have:=h2 _ h1;simp[isB] at this);unfold cOp at hc;split at hc
 case h_6 t len' ps' =>
  split at hc
  ·rename_i e z' sS l he hz hl;split at hc
   ·rename_i hlen;cases hc;obtain⟨hu,i,hi,aF,h0,h1,h2⟩:=yu he;rw[he] at hz;obtain⟨i',zv,k1,k2,k3,k4,k5,k6⟩:=yt hz;simp only[A7] at k1;obtain rfl:i'=i:=Option.some.inj (k1.symm.trans hi);simp only at aF;subst aF;subst k3;exact op_lit h dO hu hi k2 k4 h0 h1 k6 hl hlen ha
   ·cases hc
  ·cases hc
 all_goals exfalso
 all_goals first
  | exact no hc fun a ha=>cBin_nb ha
  | exact no hc fun a ha=>cConv_nb ha
  | exact no hc fun a ha=>map_nb ha fun _=>rfl
  | exact no hc fun a ha=>cCall_nb ha
  | ((repeat' split at hc)<;>(first|(cases hc;done)|exact no hc fun a ha=>map_nb ha fun _=>rfl))
def Same (a b:AOp):Prop:=b=a∨(∃frz muts f xs m,a=.call frz muts f xs∧b=.call frz m f xs)∨∃frz z zero len ps,a=.bslice frz z zero len ps∧b=.lit z zero len ps
def step_call (hS:zZ S) (hJ:zbd S A0 O w0 A σ w st tm) {a a':AOp} (hc:cOp S o.op o.type=some a) (hm:Same a a') (hs:jt (zb S) false a' d st v aa) {next:Act->World->Prop} {Q:Exit->Act->World->Prop}
  (hn:∀w' A' σ' rv,zbd S A0 O w0 A' σ' w' aa tm->(Got S A' σ' w' aa v rv∨(v=.bot∧rv=undef))->next (Act.put ⟨tm,df⟩ o.dst rv) w'):o.wp S.P ⟨tm,df⟩ w next Q:=by
 obtain⟨w1,cI,jr,h⟩:=hJ
 -- a call of function g
 have call:∀(g f:Nat) (frz:Bool) (muts:List Nat) (args:List AV) (vs:Array Value),ql g S.fns=some f->(execOp (Act.eval ⟨tm,df⟩) o).run S.P w=.ok (.enter g vs) w->vs.size=args.length->(∀(i:Nat) (x:AV),args[i]? = some x->Got S A σ w st x (vs.getD i undef)) ->
   zbE (zb S) frz muts f args d st v aa->o.wp S.P ⟨tm,df⟩ w next Q:=by
  intro g f frz muts args vs hf hr hl hg tT;unfold Oper.wp;rw[hr,Oper.upon_enter];have mB:Calls S.P g vs w fun e w'=>∃rv A' σ' w2,e=.returned rv∧RebR S w1 w2∧JR S A0 O w2∧SRel S A0 O w2 A' σ' w' aa tm∧Got S A' σ' w' aa v rv:=by
   cases muts with
   | nil=>exact zks h jr hl hg hf tT
   | cons m ms=>exact zkt h jr hl hg hf rfl tT
  refine mB.mono fun e w' ⟨rv,A',σ',w2,he,k0,j2,k1,k2⟩ => ?_;subst he;exact hn w' A' σ' rv ⟨w2,cI.trans k0,j2,k1⟩ (.inl k2)
 have other:aop a d st=some (v,aa)->o.wp S.P ⟨tm,df⟩ w next Q:=by
  intro ha;obtain⟨n,w',A',σ',hr,k1,k2⟩:=op_all (df:=df) h hc ha;unfold Oper.wp;rw[hr];rcases k2 with⟨rv,rfl,k2⟩|⟨rfl,k2⟩
  ·exact hn w' A' σ' rv ⟨w1,cI,jr,k1⟩ (.inl k2)
  ·exact hn w' A' σ' undef ⟨w1,cI,jr,k1⟩ (.inr ⟨k2,rfl⟩)
 have eM:(∀frz muts f xs,a≠.call frz muts f xs)->(∀frz z zero len ps,a≠.bslice frz z zero len ps)->a'=a:=fun cq pB=>by
  rcases hm with e|⟨frz,muts,f,xs,m,e,_⟩|⟨frz,z,zero,len,ps,e,_⟩
  ·exact e
  ·exact absurd e (cq frz muts f xs)
  ·exact absurd e (pB frz z zero len ps)
 cases a with
 | call frz muts f as =>
  obtain⟨m',rfl⟩:∃m',a'=.call frz m' f as:=by
   rcases hm with e|⟨_,_,_,_,m,e,e2⟩|⟨_,_,_,_,_,e,_⟩
   ·exact⟨muts,e⟩
   ·cases e;exact⟨m,e2⟩
   ·cases e
  simp only[jt,Au,false_and,if_false] at hs;obtain⟨c,ho,hc⟩:=zlH hc rfl;obtain⟨callee,args,tys⟩:=c;unfold zhr at hc;split at hc
  ·rename_i g bR;simp only at bR;subst bR;split at hc
   ·rename_i id xs hid iE;cases hc;obtain⟨e1,e2⟩:=h.evs (df:=df) iE;refine call g f _ _ (as.map st.ev) (args.map (Act.eval ⟨tm,df⟩)) hid ?_ (by simp at e1 ⊢;omega) (fun i x hx => ?_) hs
    ·have:=s8 hS hid (args.map (Act.eval ⟨tm,df⟩)) w;have e0:Act.eval ⟨tm,df⟩ (.func g)=.func (.func g) #[] #[]:=rfl;simp[execOp,ho,resolve,Deferred.ofValue,invoke,e0,this]
    ·have:=e2 i x hx;simpa[Ao,List.getD] using this
   ·cases hc
  all_goals (repeat' (split at hc))<;>(first|cases hc|(simp at hc;done))
 | calld frz x as =>
  obtain rfl:=eM (by simp) (by simp);simp only[jt,Au,if_false] at hs;obtain⟨c,ho,hc⟩:=zlH hc rfl;obtain⟨callee,args,tys⟩:=c;unfold zhr at hc;split at hc
  ·(repeat' (split at hc))<;>(first|cases hc|(simp at hc;done))
  ·rename_i t bR;simp only at bR;subst bR;split at hc
   ·rename_i xs iE;cases hc;split at hs
    ·rename_i f caps nO;obtain⟨e1,e2⟩:=h.evs (df:=df) iE;have gt:=h.ev (df:=df) (x:=.tmp t) (a:=.t t) rfl;rw[nO] at gt;obtain⟨g,us,hv,hid,u1,u2⟩:=gt.rel.fn_inv;refine call g f _ _ (as.map st.ev++caps) (args.map (Act.eval ⟨tm,df⟩)++us) hid ?_ (by simp at e1 ⊢;omega) (fun i x hx => ?_) hs
     ·have:=s8 hS hid (args.map (Act.eval ⟨tm,df⟩)++us) w;simp[execOp,ho,resolve,Deferred.ofValue,invoke,hv,this]
     ·have aF:(args.map (Act.eval ⟨tm,df⟩)).size=(as.map st.ev).length:=by simp at e1 ⊢;omega
      by_cases aj:i<(as.map st.ev).length
      ·rw[AG aj] at hx;have:=e2 i x hx;have e3:(args.map (Act.eval ⟨tm,df⟩)++us).getD i undef=(args.toList.map (Act.eval ⟨tm,df⟩)).getD i undef:=(by rw[Ao,Cs (by omega)];simp[List.getD]);rw[e3];exact this
      ·rw[AM (by omega)] at hx;have e3:(args.map (Act.eval ⟨tm,df⟩)++us).getD i undef=us.getD (i-(as.map st.ev).length) undef:=(by rw[Ao,Array.getElem?_append_right (by omega),aF,Ao]);rw[e3];exact⟨u2 _ x hx,fun s ae=>gt.dang s (by rw[AV.refs];exact zh.2 ⟨x,Ae hx,ae⟩)⟩
    ·exact hs.elim
   ·cases hc
  all_goals (repeat' (split at hc))<;>(first|cases hc|(simp at hc;done))
 | bslice frz z zero len ps =>
  rcases hm with rfl|⟨_,_,_,_,_,e,_⟩|⟨_,_,_,_,_,e,e2⟩
  ·exact other hs
  ·cases e
  ·cases e;subst e2;obtain⟨n,w',A',σ',hr,k1,k2⟩:=op_lit' (df:=df) h hc hs;unfold Oper.wp;rw[hr];rcases k2 with⟨rv,rfl,k2⟩|⟨rfl,k2⟩
   ·exact hn w' A' σ' rv ⟨w1,cI,jr,k1⟩ (.inl k2)
   ·exact hn w' A' σ' undef ⟨w1,cI,jr,k1⟩ (.inr ⟨k2,rfl⟩)
 | _=>obtain rfl:=eM (by simp) (by simp);exact other hs
end
end
section
open Go Go.RowKit
section
variable {S:Seat} {A0:Nat->Prop} {O:Hnd} {w0:World} {A:Nat->Prop} {σ:Nat->Option Nat} {w:World} {st aa:ASt} {tm:Array Value} {df:List Deferred} {o:Oper} {v:AV} {d:Nat} {nt:Nat}
def Match (S:Seat) (nt:Nat) (draw:Bool) (ops:Array Oper):List Nat->List AOper->Prop
 | [],[]=>True
 | i::L,a::la=>(∃o,ops[i]? = some o∧zhq S nt ops draw o=some a)∧Match S nt draw ops L la
 | _,_=>False
def SRel.putO (h:SRel S A0 O w0 A σ w st tm) (hn:tm.size=nt) {dst:Option Nat} (hd:∀d,dst=some d->d<nt) {x:AV} {rv:Value} (hg:Got S A σ w st x rv) :
  SRel S A0 O w0 A σ w (st.putO dst x) (Act.put ⟨tm,df⟩ dst rv).tmps∧(Act.put ⟨tm,df⟩ dst rv).tmps.size=nt∧(Act.put ⟨tm,df⟩ dst rv).defers=df:=by
 cases dst with
 | none=>exact⟨h,hn,rfl⟩
 | some d=>exact⟨h.put (by rw[hn];exact hd d rfl) hg,by simp[Act.put,hn],rfl⟩
def jt.noFrz {M:Rets} {q:Bool} {op:AOp} {d:Nat} {st aa:ASt} {v:AV} {lt:Bool} (h:jt M q (noFrz S lt op) d st v aa):∃gr,Same op gr∧jt M q gr d st v aa:=by
 cases op with
 | bslice frz z zero len ps =>
  cases lt with
  | true=>exact⟨_,.inr (.inr ⟨frz,z,zero,len,ps,rfl,rfl⟩),h⟩
  | false =>
  have h':aop (.bslice false z zero len ps) d st=some (v,aa):=h;refine⟨_,.inl rfl, ?_⟩;show aop (.bslice frz z zero len ps) d st=some (v,aa);simp only[aop] at h' ⊢;split at h'
  ·rename_i ps' e1 e2;split at h'
   ·rename_i hc;rw[if_pos (.inr (hc.resolve_left (by simp)))];exact h'
   ·cases h'
  ·cases h'
 | call frz muts f xs =>
  cases muts with
  | nil =>
   simp only[Ab.noFrz] at h;split at h
   ·exact⟨_,.inr (.inl ⟨frz,[],f,xs,[3000],rfl,rfl⟩),h⟩
   ·exact⟨_,.inl rfl,h⟩
  | cons m ms=>exact⟨_,.inl rfl,h⟩
 | _=>exact⟨_,.inl rfl,h⟩
def OpR.noFrz {M:Rets} {q:Bool} {a:AOper} {eV:AOp} {st aa:ASt} (dO:a.op=eV∨∃lt,a.op=Ab.noFrz S lt eV) (h:OpR M q a st aa):∃gr,Same eV gr∧OpR M q { a with op:=gr } st aa:=by
 rcases h with⟨h1,v,st1,h2,h3⟩|h
 ·rcases dO with e|⟨lt,e⟩
  ·rw[e] at h2;exact⟨eV,.inl rfl,.inl ⟨h1,v,st1,h2,h3⟩⟩
  ·rw[e] at h2;obtain⟨gr,k1,k2⟩:=h2.noFrz;exact⟨gr,k1,.inl ⟨h1,v,st1,k2,h3⟩⟩
 ·exact⟨eV,.inl rfl,.inr h⟩
def zjZ (hS:zZ S) (h:zbd S A0 O w0 A σ w st tm) (hn:tm.size=nt) {ops:Array Oper} {i:Nat} {a:AOper} {eV:AOp} (ho:ops[i]? = some o) (c1:cOp S o.op o.type=some eV) (pb:Same eV a.op) (c2:a.dst=o.dst) (c3:∀d,o.dst=some d->d<nt∧d<1000) (c4:match o.guard with|none=>a.grd=none|some (j,want)=>∃t,(ops[j]?).bind (·.dst)=some t∧a.grd=some (t,want)) (hr:OpR (zb S) false a st aa)
  {Q:Exit->Act->World->Prop} {K:Act->World->Prop} (hk:∀w' A' σ' cB,zbd S A0 O w0 A' σ' w' aa cB->cB.size=nt->K ⟨cB,df⟩ w'):wpOp S.P ops Q i K ⟨tm,df⟩ w:=by
 have gK:∀b,zds st a.grd=some b->Region.wanted o (yielded ops tm)=b:=by
  intro b hb;unfold Region.wanted;cases hg:o.guard with
  | none =>rw[hg] at c4;simp only at c4;rw[c4] at hb;simp only[zds,DM] at hb;exact hb
  | some p =>
   obtain⟨j,want⟩:=p;rw[hg] at c4;obtain⟨t,h1,h2⟩:=c4;rw[h2] at hb;simp only[zds] at hb;split at hb
   ·rename_i c fh;simp only[DM] at hb;obtain⟨_,_,_,h⟩:=h;have hv:=h.fr t;rw[fh] at hv;have e:=hv.v_inv;have e2:tm[t]? = some (.bool c):=by
     rw[Ao] at e;cases hq:tm[t]? with
     | none=>rw[hq] at e;simp[undef] at e
     | some x=>rw[hq] at e;simp at e;rw[e]
    simp only[yielded,h1,Option.bind_some,e2];rw[←hb];cases c<;>cases want<;>rfl
   ·rename_i y fh;simp only[DM] at hb;obtain⟨_,_,_,h⟩:=h;have hv:=h.fr t;rw[fh] at hv;have e:=hv.v_inv;have e2:∀c,tm[t]?≠some (.bool c):=(by intro c hq;rw[Ao,hq] at e;cases e);have e3:yielded ops tm j=none:=by
     unfold yielded;rw[h1];split
     ·rename_i c hq;exact absurd hq (e2 c)
     ·rfl
    simp only[e3,←hb];rfl
   ·cases hb
 simp only[wpOp,ho];rcases hr with⟨hg,v,st1,hs,rfl⟩|⟨hg,rfl⟩
 ·rw[if_pos (gK true hg)];left;refine step_call hS h c1 pb hs fun w' A' σ' rv k1 k2 => ?_;have pS:Got S A' σ' w' st1 v rv:=by
   rcases k2 with k2|⟨rfl,rfl⟩
   ·exact k2
   ·exact⟨.of0 (.bot _),by simp[AV.refs]⟩
  obtain⟨w2,r2,j2,k1⟩:=k1;obtain⟨q1,q2,q3⟩:=k1.putO (df:=df) hn (dst:=o.dst) (fun d hd=>(c3 d hd).1) pS;rw[c2] at hk;have:=hk w' A' σ' _ ⟨w2,r2,j2,q1⟩ q2;rw[show (Act.put ⟨tm,df⟩ o.dst rv)=⟨(Act.put ⟨tm,df⟩ o.dst rv).tmps,df⟩ from by cases o.dst<;>rfl];exact this
 ·rw[if_neg (by rw[gK false hg];simp)];obtain⟨w2,r2,j2,h⟩:=h;obtain⟨q1,q2,q3⟩:=h.putO (df:=df) hn (dst:=o.dst) (fun d hd=>(c3 d hd).1) (x:=ud) (rv:=undef) ⟨.of0 (.v _),by simp[AV.refs,ud]⟩;rw[c2] at hk;have:=hk w A σ _ ⟨w2,r2,j2,q1⟩ q2;rw[show (Act.put ⟨tm,df⟩ o.dst undef)=⟨(Act.put ⟨tm,df⟩ o.dst undef).tmps,df⟩ from by cases o.dst<;>rfl];exact this
def zfW (hS:zZ S) (h:zbd S A0 O w0 A σ w st tm) (hn:tm.size=nt) {ops:Array Oper} {draw:Bool} {i:Nat} {a:AOper} (ho:ops[i]? = some o) (hc:zhq S nt ops draw o=some a) (hr:OpR (zb S) false a st aa)
  {Q:Exit->Act->World->Prop} {K:Act->World->Prop} (hk:∀w' A' σ' cB,zbd S A0 O w0 A' σ' w' aa cB->cB.size=nt->K ⟨cB,df⟩ w'):wpOp S.P ops Q i K ⟨tm,df⟩ w:=by
 obtain⟨⟨eV,c1,dO⟩,c2,c3,c4⟩:=zmH hc;obtain⟨gr,k1,k2⟩:=OpR.noFrz dO hr;exact zjZ (a:={ a with op:=gr }) hS h hn ho c1 k1 c2 c3 c4 k2 hk
def ops_sound (hS:zZ S) {ops:Array Oper} {draw:Bool} {Q:Exit->Act->World->Prop} (L:List Nat) (la:List AOper) {st:ASt} {A:Nat->Prop} {σ:Nat->Option Nat} {w:World} {tm:Array Value} (hm:Match S nt draw ops L la) (hr:OpsR (zb S) false la st aa) (h:zbd S A0 O w0 A σ w st tm) (hn:tm.size=nt)
  (hq:∀w' A' σ' cB,zbd S A0 O w0 A' σ' w' aa cB->cB.size=nt->Q .normal ⟨cB,df⟩ w'):wpOps S.P ops Q L ⟨tm,df⟩ w:=by
 induction hr generalizing L A σ w tm with
 | nil st =>
  cases L with
  | nil=>exact hq w A σ tm h hn
  | cons i L=>exact hm.elim
 | cv gP hcv hr ih =>obtain⟨w2,r2,j2,h⟩:=h;obtain⟨A',σ',h'⟩:=hcv A0 O w2 A σ w tm h;exact ih L hm ⟨w2,r2,j2,h'⟩ hn hq
 | cons h1 h2 ih =>
  cases L with
  | nil=>exact hm.elim
  | cons i L =>obtain⟨⟨o,ho,hc⟩,eO⟩:=hm;rw[wpOps_cons];exact zfW hS h hn ho hc h1 fun w' A' σ' cB k1 k2=>ih L eO k1 k2 hq
def zeu {ops:Array Oper} {draw:Bool}:∀(n k:Nat) (la:List AOper),k+n=ops.size->zd (zhq S nt ops draw) (ops.toList.drop k)=some la->Match S nt draw ops (List.range' k n) la
 | 0,k,la,hk,h=>by
  rw[Cn (by simp;omega)] at h;simp only[zd,DM] at h;subst h;simp[List.range',Match]
 | n+1,k,la,hk,h=>by
  have aj:k<ops.toList.length:=by simp;omega
  rw[BP aj] at h;simp only[zd] at h;split at h
  ·rename_i a la' ha pH;cases h;rw[List.range'_succ];exact⟨⟨ops[k]'(by simpa using aj),by simp,by simpa using ha⟩,zeu n (k+1) la' (by omega) pH⟩
  ·cases h
def qn:ACode->Bool
 | .region _ d => !d
 | .seq a b=>qn a && qn b
 | .cond _ a b=>qn a && qn b
 | .block _ b=>qn b
 | .loop b=>qn b
 | _=>true
def LoopWp (P:Program) (c:Code) (Q:Exit->Act->World->Prop) (a:Act) (w:World):Prop :=
 ∀(b:Frame) (k:List Item) (cs:List Frame),∃e a' w',Q e a' w'∧Arrives P (lone (b.at a (.code c :: .inLoop c::k)) cs w) b k cs e a' w'
def Stm (P:Program) (c:Code) (Q:Exit->Act->World->Prop) (a:Act) (w:World):Prop :=
 match c with
 | .loop b=>LoopWp P b Q a w
 | c=>c.wp P Q a w
def Stm.wp {P:Program} {c:Code} {Q:Exit->Act->World->Prop} {a:Act} {w:World} (h:Stm P c Q a w):c.wp P Q a w:=by
 cases c with
 | loop b =>intro fr k cs;obtain⟨e,a',w',hq,da⟩:=h fr k cs;exact⟨e,a',w',hq,.of_steps (.one step_loop) da⟩
 | _=>exact h
def yR (S:Seat):Prop:=∀(A0:Nat->Prop) (O:Hnd) (w0:World) (nt:Nat) (ops:Array Oper) (la:List AOper) (id:Nat) (st aa:ASt) (A:Nat->Prop) (σ:Nat->Option Nat) (w:World) (tm:Array Value) (Q:Exit->Act->World->Prop),
 zd (zhq S nt ops true) ops.toList=some la->la.all dstOk=true->S.P.follows .mixedOrders=true->zhd la=true->OpsR (zb S) true (ordered la) st aa->zbd S A0 O w0 A σ w st tm->tm.size=nt ->
 (∀w' A' σ' cB,zbd S A0 O w0 A' σ' w' aa cB->cB.size=nt->Q .normal ⟨cB,[]⟩ w')->(Code.region id ops true).wp S.P Q ⟨tm,[]⟩ w
def Stm.mono {P:Program} {c:Code} {Q Q':Exit->Act->World->Prop} {a:Act} {w:World} (h:Stm P c Q a w) (hq:∀e a w,Q e a w->Q' e a w):Stm P c Q' a w:=by
 cases c with
 | loop b =>intro fr k cs;obtain⟨e,a',w',h1,h2⟩:=h fr k cs;exact⟨e,a',w',hq _ _ _ h1,h2⟩
 | _=>exact wp_mono h hq
def wX (hS:zZ S) {c:ACode} {e:AExit} (hex:Ex (zb S) c st e aa) (hD:qn c=true∨yR S):∀ {rc:Code},jF S nt rc=some c->∀ {A:Nat->Prop} {σ:Nat->Option Nat} {w:World} {tm:Array Value},
  zbd S A0 O w0 A σ w st tm->tm.size=nt->Stm S.P rc (Post S A0 O w0 nt e aa) ⟨tm,[]⟩ w:=by
 induction hex with
 | skip st =>
  intro rc hc A σ w tm h hn;cases rc<;>simp[jF] at hc
  case skip=>exact wp_skip ⟨rfl,rfl,hn,A,σ,h⟩
  case region=>split at hc<;>simp at hc
  all_goals (first|(split at hc<;>simp at hc;done)|skip)
 | @region ops dr st aa hr =>
  intro rc hc A σ w tm h hn;cases rc<;>simp only[jF,Ag,reduceCtorEq,and_false,exists_false,DM] at hc
  case region id rops rdr =>
   split at hc
   ·rename_i l' hl;split at hc
    ·rename_i aK;cases hc;cases dr with
     | false =>refine wp_region ?_;have hm:=zeu (S:=S) (nt:=nt) (ops:=rops) (draw:=false) rops.size 0 l' (by simp) (by simpa using hl);rw[Ds];simp only[Au,if_false] at hr;exact ops_sound hS _ _ hm hr h hn fun w' A' σ' cB k1 k2=>⟨rfl,rfl,k2,A',σ',k1⟩
     | true =>
      simp only[if_true] at hr;rcases hD with hD|hD
      ·simp[qn] at hD
      ·exact hD A0 O w0 nt rops l' id _ _ A σ w tm _ hl aK.1 (aK.2.resolve_left (by simp)).1 (aK.2.resolve_left (by simp)).2 hr h hn fun w' A' σ' cB k1 k2=>⟨rfl,rfl,k2,A',σ',k1⟩
    ·cases hc
   ·cases hc
  all_goals (split at hc<;>simp at hc)
 | @seqN a b st st1 ai e h1 h2 de kP =>
  intro rc hc A σ w tm h hn;cases rc<;>simp only[jF,Ag,reduceCtorEq,and_false,exists_false,DM] at hc
  case seq x y =>
   split at hc
   ·rename_i a' b' ha hb;cases hc;have eG:qn a=true∨yR S:=hD.imp (fun h=>by simp[qn] at h;exact h.1) id;have hD2:qn b=true∨yR S:=hD.imp (fun h=>by simp[qn] at h;exact h.2) id;refine wp_seq (wp_mono (Stm.wp (de eG ha h hn)) fun ex a' w' ⟨q1,q2,q3,A',σ',q4⟩ => ?_);obtain⟨cB,df'⟩:=a';simp only at q2 q3 q4;subst q1;subst q2;exact Stm.wp (kP hD2 hb q4 q3)
   ·cases hc
  all_goals (split at hc<;>(try split at hc)<;>simp at hc)
 | @seqE a b st st1 e h1 ah de =>
  intro rc hc A σ w tm h hn;cases rc<;>simp only[jF,Ag,reduceCtorEq,and_false,exists_false,DM] at hc
  case seq x y =>
   split at hc
   ·rename_i a' b' ha hb;cases hc;have eG:qn a=true∨yR S:=hD.imp (fun h=>by simp[qn] at h;exact h.1) id;refine wp_seq (wp_mono (Stm.wp (de eG ha h hn)) fun ex a' w' hq => ?_);obtain⟨q1,q2⟩:=hq;subst q1;cases e with
    | norm=>exact absurd rfl ah
    | exit i=>exact⟨rfl,q2⟩
    | ret=>exact⟨rfl,q2⟩
   ·cases hc
  all_goals (split at hc<;>(try split at hc)<;>simp at hc)
 | @cond c a b st aa e t az h1 de =>
  intro rc hc A σ w tm h hn;cases rc<;>simp only[jF,Ag,reduceCtorEq,and_false,exists_false,DM] at hc
  case cond x y z =>
   split at hc
   ·rename_i c' a' b' hx ha hb;cases hc;obtain⟨_,_,_,h0⟩:=id h;have g:=h0.ev (df:=[]) hx;rw[az] at g;have hv:=g.rel.v_inv;cases t with
    | true =>have eG:qn a=true∨yR S:=hD.imp (fun h=>by simp[qn] at h;exact h.1) id;exact wp_cond_true hv (Stm.wp (de eG ha h hn))
    | false =>have eG:qn b=true∨yR S:=hD.imp (fun h=>by simp[qn] at h;exact h.2) id;exact wp_cond_false hv (Stm.wp (de eG hb h hn))
   ·cases hc
  all_goals (split at hc<;>(try split at hc)<;>simp at hc)
 | @blockX i b st aa h1 de =>
  intro rc hc A σ w tm h hn;cases rc<;>simp only[jF,Ag,reduceCtorEq,and_false,exists_false,DM] at hc
  case block i' x =>
   obtain⟨b',hb,he⟩:=hc;cases he;have eG:qn b=true∨yR S:=hD.imp (fun h=>by simpa[qn] using h) id;refine wp_block (wp_mono (Stm.wp (de eG hb h hn)) fun ex a' w' ⟨q1,q2⟩ => ?_);subst q1;simp only[exOf,Exit.inBlock,if_true];exact⟨rfl,q2⟩
  all_goals (split at hc<;>(try split at hc)<;>simp at hc)
 | @blockO i b st aa e h1 ah de =>
  intro rc hc A σ w tm h hn;cases rc<;>simp only[jF,Ag,reduceCtorEq,and_false,exists_false,DM] at hc
  case block i' x =>
   obtain⟨b',hb,he⟩:=hc;cases he;have eG:qn b=true∨yR S:=hD.imp (fun h=>by simpa[qn] using h) id;refine wp_block (wp_mono (Stm.wp (de eG hb h hn)) fun ex a' w' ⟨q1,q2⟩ => ?_);subst q1;cases e with
   | norm=>exact⟨rfl,q2⟩
   | exit j =>have:j≠i:=fun e=>ah (by rw[e]);simp only[exOf,Exit.inBlock,if_neg this];exact⟨rfl,q2⟩
   | ret=>exact⟨rfl,q2⟩
  all_goals (split at hc<;>(try split at hc)<;>simp at hc)
 | @loopN b st st1 ai e h1 h2 de kP =>
  intro rc hc A σ w tm h hn;cases rc<;>simp only[jF,Ag,reduceCtorEq,and_false,exists_false,DM] at hc
  case loop x =>
   obtain⟨b',hb,he⟩:=hc;cases he;have eG:qn b=true∨yR S:=hD.imp (fun h=>by simpa[qn] using h) id;intro fr k cs;obtain⟨ex,a',w',⟨q1,q2,q3,A',σ',q4⟩,da⟩:=Stm.wp (de eG hb h hn) fr (.inLoop x::k) cs;obtain⟨cB,df'⟩:=a';simp only at q2 q3 q4;subst q1;subst q2;have hl:Stm S.P (.loop x) _ ⟨cB,[]⟩ w':=kP hD (rc:=.loop x) (by simp[jF,hb]) q4 q3;obtain⟨e2,a2,w2,bP,mG⟩:=hl fr k cs;exact⟨e2,a2,w2,bP,.of_steps (Steps.trans da (.one step_inLoop)) mG⟩
  all_goals (split at hc<;>(try split at hc)<;>simp at hc)
 | @loopE b st st1 e h1 ah de =>
  intro rc hc A σ w tm h hn;cases rc<;>simp only[jF,Ag,reduceCtorEq,and_false,exists_false,DM] at hc
  case loop x =>
   obtain⟨b',hb,he⟩:=hc;cases he;have eG:qn b=true∨yR S:=hD.imp (fun h=>by simpa[qn] using h) id;intro fr k cs;obtain⟨ex,a',w',hq,da⟩:=Stm.wp (de eG hb h hn) fr (.inLoop x::k) cs;obtain⟨q1,q2⟩:=hq;subst q1;cases e with
   | norm=>exact absurd rfl ah
   | exit j=>exact⟨_,a',w',⟨rfl,q2⟩,.pass (x:=.inLoop x) rfl (fun _ _=>.inl (by simp[exOf])) da⟩
   | ret=>exact⟨_,a',w',⟨rfl,q2⟩,.pass (x:=.inLoop x) rfl (fun _ _=>.inl (by simp[exOf])) da⟩
  all_goals (split at hc<;>(try split at hc)<;>simp at hc)
 | exit id st =>
  intro rc hc A σ w tm h hn;cases rc<;>simp only[jF,Ag,reduceCtorEq,and_false,exists_false,DM] at hc
  case exit i=>cases hc;exact wp_exit ⟨rfl,rfl,hn,A,σ,h⟩
  all_goals (split at hc<;>(try split at hc)<;>simp at hc)
 | ret st =>
  intro rc hc A σ w tm h hn;cases rc<;>simp only[jF,Ag,reduceCtorEq,and_false,exists_false,DM] at hc
  case ret=>exact wp_ret ⟨rfl,rfl,hn,A,σ,h⟩
  all_goals (split at hc<;>(try split at hc)<;>simp at hc)
 | cv hcv h1 de =>intro rc hc A σ w tm h hn;obtain⟨w2,r2,j2,h⟩:=h;obtain⟨A',σ',h'⟩:=hcv A0 O w2 A σ w tm h;exact de hD hc ⟨w2,r2,j2,h'⟩ hn
 | cvR h1 hcv de =>intro rc hc A σ w tm h hn;refine (de hD hc h hn).mono ?_;rintro ex a w' ⟨q1,q2,q3,A',σ',w2,r2,j2,q4⟩;obtain⟨A2,σ2,h'⟩:=hcv A0 O w2 A' σ' w' _ q4;exact⟨q1,q2,q3,A2,σ2,w2,r2,j2,h'⟩
end
end
section
open Go Go.RowKit
section
variable {S:Seat} {A0:Nat->Prop} {O:Hnd} {w0:World} {A:Nat->Prop} {σ:Nat->Option Nat} {w w':World} {st aa:ASt} {tm:Array Value}
def zma (h:SRel S A0 O w0 A σ w st tm) {x:AV} {rv:Value} (g:Got S A σ w st x rv) {t:TypeId} {n:Option Nat} (hs:cAgg S.P t=some n) {cs:List AV} {off:Nat} (he:Ab.cellsAt st.hp x=some (cs,off)) {y:AV} (hy:zct cs off n=some y) :
  ∃a v,rv=.pointer (some a)∧(loadVar t a).run S.P w=.ok v w∧Got S A σ w st y v:=by
 obtain⟨b,o0,u,e,h2,h3⟩:=h.cellsAt g he;cases n with
 | none =>
  simp only[zct] at hy;split at hy
  ·rename_i a hx;split at hy
   ·cases hy;have hi:off<cs.length:=(Ac.1 hx).1;exact⟨_,u off,e,by simp[loadVar,oe hs,h2 off hi],h3 _ _ hx⟩
   ·cases hy
  ·cases hy
 | some n =>
  obtain⟨k1,i,k2,rfl,k3⟩:=oh hs w;simp only[zct] at hy;split at hy
  ·rename_i hle;cases hy;have hl:=run_loadCells (P:=S.P) w ⟨b,o0+off,none⟩ i.size (fun j=>u (off+j)) (fun j hj=>by rw[Addr.add_lit,A5];exact h2 (off+j) (by omega));refine⟨_,.agg ((List.range i.size).map fun j=>u (off+j)).toArray,e,by simp[loadVar,k1,Go.sizeOf,typeInfo,k2,hl],.agg (by simp;omega) fun j a hj => ?_,fun s hs => ?_⟩
   ·have bA:j<i.size:=by have:=(Ac.1 hj).1;simp at this;omega
    rw[A8 bA,BG] at hj;have:=(h3 _ _ hj).rel;simpa[Array.getD,bA] using this
   ·rw[AV.refs] at hs;have ae:=zgG hs;rw[zh] at ae;obtain⟨a,ha,lY⟩:=ae;obtain⟨j,hj⟩:=AA.1 ha;exact (h3 j a hj).dang s lY
  ·cases hy
def zig (tm:Array Value):ResultVar->Sem Value
 | .tmp t=>pure (tm.getD t undef)
 | .cell a t=>do loadVar t (←asAddr (tm.getD a undef))
def resVal_ok (h:SRel S A0 O w0 A σ w st tm) {r:ResultVar} {a:ARes} (hc:zmG S.P r=some a) {y:AV} (hy:yA st a=some y):∃v,(zig tm r).run S.P w=.ok v w∧Got S A σ w st y v:=by
 cases r with
 | tmp t =>simp only[zmG,DM] at hc;subst hc;simp only[yA,DM] at hy;subst hy;exact⟨_,by simp[zig],h.fr t,h.dang t⟩
 | cell t ty =>
  simp only[zmG,Ag] at hc;obtain⟨n,hn,rfl⟩:=hc;simp only[yA] at hy;split at hy
  ·rename_i cs off he;obtain⟨a,v,e,hr,hg⟩:=zma h ⟨h.fr t,h.dang t⟩ hn he hy;exact⟨v,by simp[zig,e,asAddr,hr],hg⟩
  ·cases hy
def resL_ok (h:SRel S A0 O w0 A σ w st tm):∀(l:List ResultVar) (res:List ARes) (ys:List AV),zd (zmG S.P) l=some res->zd (yA st) res=some ys ->
  ∃vs:List Value,(l.mapM (zig tm)).run S.P w=.ok vs w∧ys.length=vs.length∧∀(i:Nat) (y:AV),ys[i]? = some y->Got S A σ w st y (vs.getD i undef)
 | [],res,ys,h1,h2=>by
  simp only[zd,DM] at h1;subst h1;simp only[zd,DM] at h2;subst h2;exact⟨[],by simp,rfl,by simp⟩
 | r::l,res,ys,h1,h2=>by
  simp only[zd] at h1;split at h1
  ·rename_i a oM ha aD;simp only[DM] at h1;subst h1;simp only[zd] at h2;split at h2
   ·rename_i y bU hy dh;simp only[DM] at h2;subst h2;obtain⟨v,k1,k2⟩:=resVal_ok h ha hy;obtain⟨vs,q1,q2,q3⟩:=resL_ok h l oM bU aD dh;refine⟨v::vs,by simp[Du,k1,q1],by simp[q2],fun i x hx => ?_⟩;cases i with
    | zero=>simp at hx;subst hx;exact k2
    | succ i=>simp at hx;simpa using q3 i x hx
   ·cases h2
  ·cases h1
def zfR (h:SRel S A0 O w0 A σ w st tm) {fn:Func} {res:List ARes} {ys:List AV} (h1:zd (zmG S.P) fn.results.toList=some res) (h2:zd (yA st) res=some ys) :
  ∃vs:Array Value,(results fn tm).run S.P w=.ok (if h:vs.size=1 then vs[0] else .tuple vs) w∧ys.length=vs.size∧∀(i:Nat) (y:AV),ys[i]? = some y->Got S A σ w st y (vs.getD i undef):=by
 obtain⟨vs,k1,k2,k3⟩:=resL_ok h _ _ _ h1 h2;refine⟨vs.toArray, ?_,by simpa using k2,fun i y hy=>by simpa[Ao] using k3 i y hy⟩
 have e2:results fn tm=(do let vs ←fn.results.mapM (zig tm);pure (if h:vs.size=1 then vs[0] else .tuple vs)) :=
  congrArg (fun (f:ResultVar->Sem Value)=>(do let vs ←fn.results.mapM f;pure (if h:vs.size=1 then vs[0] else Value.tuple vs):Sem Value)) (funext fun x=>by cases x<;>rfl)
 rw[e2,Array.mapM_eq_mapM_toList];simp[k1]
def zml:Hnd:=⟨fun _=>False,fun _=>none⟩
def retR_of {β:Nat->Option Nat} (hβ:∀i b,β i=some b->w.heap.size<=b∧b<w'.heap.size) (ay:∀i j b,β i=some b->β j=some b->i=j) {ys:List AV} {vs:Array Value} (hl:ys.length=vs.size)
  (ha:∀(i:Nat) (x:AV),ys[i]? = some x->zap S (qy A β w w') w' (β i) x (vs.getD i undef)):zdm S A w w' (qz ys) (if h:vs.size=1 then vs[0] else .tuple vs):=by
 by_cases h1:vs.size=1
 ·rw[dif_pos h1];have e:vs[0]=vs.getD 0 undef:=by simp[Array.getD,h1]
  match ys,hl,ha with
  | [x],_,ha =>
   have hx:=ha 0 x rfl;rw[←e] at hx;rw[show qz [x]=x from rfl];by_cases ht:∃rs,x=.tup rs
   ·obtain⟨rs,rfl⟩:=ht;have dp:VR0 S (qy A β w w') w' (.tup rs) vs[0]:=hx.2;have lV:=dp.mono (A':=qy A (fun _=>none) w w') (fun b hb=>⟨hb.1,hb.2.1,by simp⟩) (fun _ _=>rfl);generalize vs[0]=v at lV;refine⟨fun _=>none,by simp,by simp, ?_⟩;cases lV with
    | tup q1 q2=>exact⟨_,rfl,q1,fun i y hy=>qY (q2 i y hy)⟩
   ·refine⟨β,hβ,ay, ?_⟩;cases x with
    | tup rs=>exact absurd ⟨rs,rfl⟩ ht
    | _=>exact hx
  | [],hl,_=>simp at hl;omega
  | _::_::_,hl,_=>simp at hl;omega
 ·rw[dif_neg h1];have e:qz ys=.tup ys:=by
   match ys,hl with
   | [],_=>rfl
   | [x],hl=>simp at hl;omega
   | _::_::_,_=>rfl
  rw[e];exact⟨β,hβ,ay,vs,rfl,hl,ha⟩
def zlc:∀(rs:List AV) (i j:Nat) (x y:AV) (s:Nat),qp (AV.refsL rs)=true->rs[i]? = some x->rs[j]? = some y->s∈x.refs->s∈y.refs->i=j:=by
 have app:∀(a b:List Nat),qp (a++b)=true->qp b=true∧∀s,s∈a->s∈b->False:=by
  intro a b
  induction a with
  | nil=>intro h;exact⟨h,by simp⟩
  | cons x a ih =>
   intro h;simp only[AK,qp,Ai,AU,Bf,decide_eq_false_iff_not,Aj] at h;obtain⟨k1,k2⟩:=ih h.2;refine⟨k1,fun s hs hb => ?_⟩;rcases Ar.1 hs with rfl|hs
   ·exact h.1 (.inr hb)
   ·exact k2 s hs hb
 intro rs
 induction rs with
 | nil=>intro i j x y s _ h;simp at h
 | cons a rs ih =>
  intro i j x y s hn hi hj hx hy;rw[AV.refsL] at hn;obtain⟨k1,k2⟩:=app _ _ hn;cases i with
  | zero =>
   cases j with
   | zero=>rfl
   | succ j =>simp at hi hj;subst hi;exact (k2 s hx (zh.2 ⟨y,Ae hj,hy⟩)).elim
  | succ i =>
   cases j with
   | zero =>simp at hi hj;subst hj;exact (k2 s hy (zh.2 ⟨x,Ae hi,hx⟩)).elim
   | succ j =>simp at hi hj;rw[ih i j x y s k1 hi hj hx hy]
def sK {Ab:Nat->Prop} {O:Hnd} {wb:World} (h:SRel S Ab O wb A0 σ w' st tm) (hA:∀b,A0 b->(A b∨w.heap.size<=b)∧b<w'.heap.size) (hσ:∀s b,σ s=some b->w.heap.size<=b∧b<w'.heap.size) {own:Bool} {res:List ARes} {r:AV} {outs:zdy} {fn:Func}
  (h1:zd (zmG S.P) fn.results.toList=some res) (he:qE own [] res st=some (r,outs)):outs=[]∧∃v,(results fn tm).run S.P w'=.ok v w'∧zdm S A w w' r v:=by
 unfold qE at he;split at he
 ·rename_i rs pg;obtain⟨vs,k1,k2,k3⟩:=zfR h h1 pg;cases own with
  | true =>
   simp only[if_true] at he;split at he
   ·rename_i hnd;split at he
    ·rename_i ys dh;simp only[DM,DN] at he;obtain⟨rfl,rfl⟩:=he;obtain⟨d1,d2⟩:=zD dh
     let β:Nat->Option Nat:=fun i=>match rs[i]? with|some (.lsl s z 0 n)=>(match st.hp s with|some (.arr z' es)=>if z=z'∧n=es.length∧zcj s=false then σ s else none|_=>none)|_=>none
     have hβ:∀i b,β i=some b->∃s x,rs[i]? = some x∧s∈x.refs∧σ s=some b:=by
      intro i b hb;simp only[β] at hb;split at hb
      ·rename_i s z n hi;split at hb
       ·split at hb
        ·exact⟨s,_,hi,by simp[AV.refs],hb⟩
        ·cases hb
       ·cases hb
      ·cases hb
     refine⟨rfl,_,k1,retR_of (β:=β) (fun i b hb => ?_) (fun i j b hi hj => ?_) (by omega) fun i y hy => ?_⟩
     ·obtain⟨s,x,_,_,hs⟩:=hβ i b hb;exact hσ s b hs
     ·obtain⟨s,x,q1,q2,q3⟩:=hβ i b hi;obtain⟨s',x',oP,oO,oN⟩:=hβ j b hj;obtain rfl:=h.inj s s' b q3 oN;exact zlc rs i j x x' s hnd.1 q1 oP q2 oO
     ·have fm:∀b,A0 b->qy A β w w' b:=fun b hb=>⟨(hA b hb).1,(hA b hb).2,fun i e=>by
       obtain⟨s,x,_,_,hs⟩:=hβ i b e;exact (h.dom s b hs).2.2.1 hb⟩
      obtain⟨x0,aC,aH⟩:=d2 i y hy;have hg:=k3 i x0 aC;have plain:β i=none->x0.refs=[]->y=x0->zap S (qy A β w w') w' (β i) y (vs.getD i undef):=(by rintro hb hr rfl;rw[hb];exact qY ((hg.rel.to0 hr).mono fm fun _ _=>rfl));have other:(∀s z n,x0≠.lsl s z 0 n)->zap S (qy A β w w') w' (β i) y (vs.getD i undef):=by
       intro ah;have:(if x0.refs.isEmpty then some x0 else none)=some y:=by
        cases x0 with
        | lsl s z off n =>
         cases off with
         | zero=>exact absurd rfl (ah _ _ _)
         | succ off=>exact aH
        | _=>exact aH
       split at this
       ·rename_i hr;have e:=Option.some.inj this;refine plain ?_ (by simpa using hr) e.symm;clear aH this e;cases x0 with
        | lsl s z off n=>simp[AV.refs] at hr
        | _=>simp[β,aC]
       ·cases this
      by_cases hl:∃s z n,x0=.lsl s z 0 n
      ·obtain⟨s,z,n,rfl⟩:=hl;simp only[wj] at aH;split at aH
       ·rename_i z' es hb;split at aH
        ·rename_i az;cases aH;obtain⟨rfl,rfl,cC⟩:=az;have hβi:β i=σ s:=by simp[β,aC,hb,cC]
         rw[hβi];obtain⟨b0,bb⟩:=h.hp s _ hb;refine (show qx S _ w' (σ s) z es (vs.getD i undef) from ⟨b0, ?_⟩);rcases hg.rel.lsl_inv with⟨_,q2,q3,q4⟩|⟨b,o,cap,cs,el,e1,q0,q1,q2,q3,q4,q5⟩
         ·exact .inl ⟨q3,AN.1 q2,by rw[q4]⟩
         ·rcases bb with⟨m1,m2⟩|⟨b',aJ,bT,m1,m2,m3,m4,m5⟩
          ·rw[m1] at q0;cases q0
          ·obtain rfl:b'=b:=Option.some.inj (m1.symm.trans q0);rw[q3] at m2;cases m2;have ho:o=0:=by have:=q2 (.inr rfl);omega
           subst ho;exact .inr ⟨b',cap,cs,el,q0,e1,q1,q5,q3,by simpa using q4,m4,fun i' e' c x h1 h2=>(m5 i' e' c x h1 h2).mono fm fun _ _=>rfl⟩
        ·cases aH
       ·cases aH
      ·exact other fun s z n e=>hl ⟨s,z,n,e⟩
    ·cases he
   ·cases he
  | false =>
   simp only[Au,if_false,if_true] at he;split at he
   ·rename_i ys dh;simp only[DM,DN] at he;obtain⟨rfl,rfl⟩:=he;obtain⟨d1,d2⟩:=zD dh;refine⟨rfl,_,k1,retR_of (β:=fun _=>none) (by simp) (by simp) (by omega) fun i y hy => ?_⟩;obtain⟨x0,aC,aH⟩:=d2 i y hy;exact qY (wN h (fun b hb=>⟨(hA b hb).1,(hA b hb).2,by simp⟩) (k3 i x0 aC).rel aH fun s b hs _=>⟨.inr (hσ s b hs).1,(hσ s b hs).2,by simp⟩)
   ·cases he
 ·cases he
def ziV (h:SRel S A zml w A0 σ w' st tm) {own:Bool} {res:List ARes} {r:AV} {outs:zdy} {fn:Func} (h1:zd (zmG S.P) fn.results.toList=some res) (he:qE own [] res st=some (r,outs)) :
  outs=[]∧∃v,(results fn tm).run S.P w'=.ok v w'∧zdm S A w w' r v :=
 sK h (fun b hb=>⟨(h.Asub b hb).imp id fun e=>e.resolve_right (fun e=>e),h.Alt b hb⟩) (fun s b hs=>⟨(h.dom s b hs).2.2.2.resolve_right (fun e=>e),(h.dom s b hs).2.1⟩) h1 he
def zbA:∀(i:Nat) (args:List AV),qT [] i args=true->∀x∈args,zG x=false
 | _,[],_,_,hx=>by cases hx
 | i,a::r,h,x,hx=>by
  simp only[qT,zA,CC,DK,Dx,Ai,beq_iff_eq] at h;rcases Ar.1 hx with rfl|hx
  ·exact h.1
  ·exact zbA (i+1) r h.2 x hx
def wm (muts:List Nat):∀(i:Nat) (args:List AV),(∀x∈args,zG x=false)->zV muts i args=fun _=>none
 | _,[],_=>rfl
 | i,a::r,h=>by
  have ih:=wm muts (i+1) r fun x hx=>h x (Ad _ hx);have ha:=h a Ak;cases a with
  | own z es=>simp[zG] at ha
  | _=>simp only[zV,ih]
def zeK (muts:List Nat):∀(i:Nat) (args:List AV) (k:Nat),(∀x∈args,zG x=false)->ja muts i args k=.bot∨(i<=k∧args[k-i]? = some (ja muts i args k))
 | _,[],_,_=>.inl rfl
 | i,a::r,k,h=>by
  have ih:=zeK muts (i+1) r k fun x hx=>h x (Ad _ hx);have ha:=h a Ak;simp only[ja,upd];split
  ·rename_i e;subst e;refine .inr ⟨Az _, ?_⟩;simp only[Ck,B4];cases a with
   | own z es=>simp[zG] at ha
   | _=>rfl
  ·rcases ih with ih|⟨h1,h2⟩
   ·exact .inl ih
   ·refine .inr ⟨by omega, ?_⟩;rw[show k-i=(k-(i+1))+1 by omega,A4];exact h2
def zlv {args:List AV} {vs:Array Value} (hf:qT [] 0 args=true) (hl:vs.size=args.length) (hA:(∀b,A b->b<w.heap.size)∧Inv S w) (ha:∀(i:Nat) (x:AV),args[i]? = some x->VR0 S A w x (vs.getD i undef)) (m:Nat) :
  SRel S A zml w A (fun _=>none) w (enter [] args) (vs++Array.replicate m undef):=by
 have ho:=zbA 0 args hf;have hh:(enter [] args).hp=fun _=>none:=by simp only[enter];exact wm [] 0 args ho
 have aZ:∀k,(enter [] args).fr k=.bot∨VR0 S A w ((enter [] args).fr k) ((vs++Array.replicate m undef).getD k undef):=by
  intro k;rcases zeK [] 0 args k ho with h|⟨_,h⟩
  ·exact .inl h
  ·refine .inr ?_;simp only[Dd] at h;have:=ha k _ h;have hk:k<vs.size:=by rw[hl];exact (Ac.1 h).1
   have e:(vs++Array.replicate m undef).getD k undef=vs.getD k undef:=(by rw[Ao,Cs hk,Ao]);rw[e];exact this
 refine⟨fun k => ?_,fun s blk hb => ?_,fun k s hs => ?_,fun s cs hs => ?_,fun s b hs => ?_,fun s s' b hs => ?_,hA.1,fun b hb=>.inl hb,.refl _ _,(fun s e he=>by cases he),fun b hb=>hb.elim,fun _ _ h=>h,hA.2⟩
 ·rcases aZ k with h|h
  ·rw[h];exact .of0 (.bot _)
  ·exact .of0 h
 ·rw[hh] at hb;cases hb
 ·rcases aZ k with h|h
  ·rw[h] at hs;simp[AV.refs] at hs
  ·exact (jK h s hs).elim
 ·rw[hh] at hs;cases hs
 ·cases hs
 ·cases hs
def zj9 (hS:zZ S) {g id:Nat} {fn:Func} {f:AFunc} (hg:S.P.funcs[g]? = some fn) (hc:zbw S id fn=some f) (cV:zcd id S.muts=[]) (hD:qn f.body=true∨yR S) {args:List AV} {r:AV} {outs:zdy}
  (hb:BodyR (zb S) f args r outs):outs=[]∧zfn S g args r:=by
 unfold zbw at hc;split at hc
 ·rename_i body res bw aD;split at hc
  ·rename_i az;have ez:=az.1;cases hc;obtain⟨hlen,aR,e,aa,hex,iX,aG⟩:=hb;simp only at hlen aR hex aG hD;rw[cV] at aR aG hex;obtain⟨c,eR,im⟩:∃c,fn.body=some c∧jF S fn.ntmps c=some body:=by
    cases eR:fn.body with
    | none=>simp[eR] at bw
    | some c=>simp[eR] at bw;exact⟨c,rfl,bw⟩
   have main:∀(A:Nat->Prop) (w:World) (vs:Array Value),vs.size=args.length->((∀b,A b->b<w.heap.size)∧Inv S w)->JR S A (fun _=>False) w->(∀(i:Nat) (x:AV),args[i]? = some x->VR0 S A w x (vs.getD i undef)) ->
     c.wp S.P (fun ex a w'=>(ex=.normal∨ex=.ret)∧a.defers=[]∧∃A' σ',zbd S A zml w A' σ' w' aa a.tmps) { tmps:=vs++Array.replicate (fn.ntmps-vs.size) undef,defers:=[] } w:=by
    intro A w vs hl hA hJ ha;refine wp_mono (Stm.wp (wX hS hex hD im ⟨w,.refl S w,hJ,zlv aR hl hA ha _⟩ (by simp;omega))) ?_;rintro ex a w' ⟨q1,q2,q3,q4⟩;refine⟨?_,q2,q4⟩;subst q1;rcases iX with rfl|rfl
    ·exact .inl rfl
    ·exact .inr rfl
   have pz:outs=[]:=by
    unfold qE at aG;split at aG
    ·split at aG
     ·split at aG
      ·split at aG
       ·simp only[DM,DN] at aG;exact aG.2.symm
       ·cases aG
      ·cases aG
     ·simp only[if_true] at aG;split at aG
      ·simp only[DM,DN] at aG;exact aG.2.symm
      ·cases aG
    ·cases aG
   refine⟨pz,fun A w vs hl hA hJ ha => ?_⟩;refine calls_of_wp hg eR (wp_mono (main A w vs hl hA hJ ha) ?_);rintro ex a w' ⟨q1,q2,A',σ',w2,r2,j2,q3⟩;obtain⟨_,v,k1,k2⟩:=ziV q3 aD aG;have bE:=r2.keep q3.keep;have bE:KeepO S.jg w w':=⟨bE.os,bE.tape,bE.output,bE.size,fun k hk hn=>bE.block k hk fun e=>e.elim (fun e=>e) hn⟩;have hj:=(q3.jpreA j2).jn;have k2:=k2.same r2.size.symm;rcases q1 with rfl|rfl
   ·exact⟨q2,v,k1,v,rfl,bE,hj,k2⟩
   ·exact⟨q2,v,k1,v,rfl,bE,hj,k2⟩
  ·cases hc
 ·cases hc
def jq (muts:List Nat) (ι:Nat->Option Nat):Nat->List AV->Nat->Option Nat
 | _,[]=>fun _=>none
 | i,x::r=>match x with | .own _ _=>upd (jq muts ι (i+1) r) (qb muts i) (ι i)|_=>jq muts ι (i+1) r
def zcm {muts:List Nat} {i j:Nat} (hi:i<1000) (hj:j<1000) (h:qb muts i=qb muts j):i=j:=by simp only[qb] at h;split at h<;>split at h<;>omega
def zl6 {muts:List Nat} {i:Nat} (hi:i<1000):zcj (qb muts i)=muts.contains i:=by
 simp only[qb];split
 ·rename_i h;rw[h,zcj,Ai,Nat.ble_eq,Ce];omega
 ·rename_i h;have h':muts.contains i=false:=by simpa using h
  rw[h',zcj,Dp];right;rw[←BZ,Ce];omega
def jC (muts:List Nat) (ι:Nat->Option Nat):∀(i:Nat) (args:List AV) (s:Nat),(zV muts i args s=none∧jq muts ι i args s=none) ∨
  ∃j z es,args[j]? = some (.own z es)∧s=qb muts (i+j)∧zV muts i args s=some (.arr z es)∧jq muts ι i args s=ι (i+j)
 | _,[],_=>.inl ⟨rfl,rfl⟩
 | i,a::r,s=>by
  have ih:=jC muts ι (i+1) r s
  have other:zV muts i (a::r) s=zV muts (i+1) r s->jq muts ι i (a::r) s=jq muts ι (i+1) r s->(zV muts i (a::r) s=none∧jq muts ι i (a::r) s=none) ∨
    ∃j z es,(a::r)[j]? = some (.own z es)∧s=qb muts (i+j)∧zV muts i (a::r) s=some (.arr z es)∧jq muts ι i (a::r) s=ι (i+j):=by
   intro e1 e2;rw[e1,e2];rcases ih with h|⟨j,z,es,h1,h2,h3,h4⟩
   ·exact .inl h
   ·exact .inr ⟨j+1,z,es,by simpa using h1,by rw[h2];congr 1;omega,h3,by rw[h4];congr 1;omega⟩
  cases a with
  | own z es =>
   by_cases e:s=qb muts i
   ·subst e;exact .inr ⟨0,z,es,rfl,rfl,by simp only[zV,qD],by simp only[jq,qD];rfl⟩
   ·exact other (by simp only[zV,gH _ _ _ e]) (by simp only[jq,gH _ _ _ e])
  | _=>exact other rfl rfl
def mY (muts:List Nat):∀(i:Nat) (args:List AV) (j z:Nat) (es:List (List AV)),args[j]? = some (.own z es)->zV muts i args (qb muts (i+j))≠none
 | _,[],_,_,_,h=>by simp at h
 | i,a::r,j,z,es,h=>by
  cases j with
  | zero =>simp at h;subst h;simp[zV,upd]
  | succ j =>
   have ih:=mY muts (i+1) r j z es (by simpa using h);rw[show i+1+j=i+(j+1) by omega] at ih;cases a with
   | own z' bj =>
    simp only[zV,upd];split
    ·simp
    ·exact ih
   | _=>exact ih
def zeL (muts:List Nat):∀(i:Nat) (args:List AV) (k:Nat),ja muts i args k=.bot∨∃x,i<=k∧args[k-i]? = some x∧ja muts i args k=(match x with | .own z es=>.lsl (qb muts k) z 0 (List.length es)|x=>x)
 | _,[],_=>.inl rfl
 | i,a::r,k=>by
  have ih:=zeL muts (i+1) r k;simp only[ja,upd];split
  ·rename_i e;subst e;exact .inr ⟨a,Az _,by simp,rfl⟩
  ·rcases ih with ih|⟨x,h1,h2,h3⟩
   ·exact .inl ih
   ·refine .inr ⟨x,by omega, ?_,h3⟩;rw[show k-i=(k-(i+1))+1 by omega,A4];exact h2
def zdr (muts:List Nat) (args:List AV) (ι:Nat->Option Nat) (w:World):Hnd :=
 ⟨zbc ι,fun s=>if zcj s=true then (match zV muts 0 args s,jq muts ι 0 args s with
  | some (.arr z es),some b=>(match w.heap[b]? with|some (.cells cs el _)=>some ⟨some b,z,es.length,el,cs.size⟩|_=>some ⟨some b,z,es.length,0,0⟩)
  | some (.arr z es),none=>some ⟨none,z,es.length,0,0⟩
  | _,_=>none) else none⟩
def zcJ {muts:List Nat} {ι:Nat->Option Nat}:∀(i:Nat) (args:List AV) (s b:Nat),jq muts ι i args s=some b->∃j,ι j=some b
 | _,[],s,b,h=>by cases h
 | i,x::r,s,b,h=>by
  unfold jq at h;split at h
  ·unfold upd at h;split at h
   ·exact⟨_,h⟩
   ·exact zcJ (i+1) r s b h
  ·exact zcJ (i+1) r s b h
def zmu {muts:List Nat} {args:List AV} {ι:Nat->Option Nat} {w2:World} (h:∀i b,ι i=some b->w2.heap[b]? = w.heap[b]?):zdr muts args ι w2=zdr muts args ι w:=by
 unfold zdr;congr 1;funext s;split
 ·cases h1:zV muts 0 args s with
  | none=>rfl
  | some blk =>
   cases blk with
   | var cs=>rfl
   | arr z es =>
    cases h2:jq muts ι 0 args s with
    | none=>rfl
    | some b =>obtain⟨j,hj⟩:=zcJ 0 args s b h2;simp only[h j b hj]
 ·rfl
def zap.same {w2:World} {b?:Option Nat} {x:AV} {v:Value} (h:zap S A w b? x v) (hA:∀b,A b->w2.heap[b]? = w.heap[b]?) (hb:∀b,b? = some b->w2.heap[b]? = w.heap[b]?):zap S A w2 b? x v:=by
 by_cases ho:∃z es,x=.own z es
 ·obtain⟨z,es,rfl⟩:=ho;obtain⟨h0,h1|⟨b,cap,us,el,h1,h2,h3,h4,h5,h6,h7,h8⟩⟩:=h
  ·exact⟨h0,.inl h1⟩
  ·exact⟨h0,.inr ⟨b,cap,us,el,h1,h2,h3,h4,by rw[hb b h1];exact h5,h6,h7,fun i e c x hi hc=>(h8 i e c x hi hc).mono (fun _ h=>h) hA⟩⟩
 ·obtain⟨k1,k2⟩:=kH h (by cases x<;>first|rfl|exact absurd ⟨_,_,rfl⟩ ho)
  rw[k1];exact qY (k2.mono (fun _ h=>h) hA)
def enterM_ok {muts:List Nat} {args:List AV} {vs:Array Value} {ι:Nat->Option Nat} (hl:vs.size=args.length) (hn:args.length<=1000) (hA:(∀b,A b->b<w.heap.size)∧Inv S w)
  (hι:(∀i b,ι i=some b->i<args.length∧b<w.heap.size∧¬A b∧∀p∈S.globB,p≠b)∧∀i j b,ι i=some b->ι j=some b->i=j)
  (ha:∀(i:Nat) (x:AV),args[i]? = some x->zap S A w (ι i) x (vs.getD i undef)) (m:Nat) :
  SRel S A (zdr muts args ι w) w A (jq muts ι 0 args) w (enter muts args) (vs++Array.replicate m undef):=by
 have aj:∀(j:Nat) (x:AV),args[j]? = some x->j<1000:=fun j x h=>by have:=(Ac.1 h).1;omega
 have cT:∀(j z:Nat) (es:List (List AV)),args[j]? = some (.own z es)->zV muts 0 args (qb muts j)=some (.arr z es)∧jq muts ι 0 args (qb muts j)=ι j:=by
  intro j z es h;have h0:=mY muts 0 args j z es h;rw[AY] at h0;rcases jC muts ι 0 args (qb muts j) with⟨h1,_⟩|⟨j',z',bj,h1,h2,h3,h4⟩
  ·exact absurd h1 h0
  ·rw[AY] at h2 h4;obtain rfl:=zcm (aj j _ h) (aj j' _ h1) h2;rw[h] at h1;cases h1;exact⟨h3,h4⟩
 have aZ:∀k,(enter muts args).fr k=.bot∨Got S A (jq muts ι 0 args) w (enter muts args) ((enter muts args).fr k) ((vs++Array.replicate m undef).getD k undef):=by
  intro k;rcases zeL muts 0 args k with h|⟨x,_,h1,h2⟩
  ·exact .inl h
  ·refine .inr ?_;rw[Dd] at h1;have hk:k<vs.size:=by rw[hl];exact (Ac.1 h1).1
   have e:(vs++Array.replicate m undef).getD k undef=vs.getD k undef:=(by rw[Ao,Cs hk,Ao]);rw[e];have hx:=ha k x h1;show Got S A _ w _ (ja muts 0 args k) _;rw[h2];by_cases ho:∃z es,x=.own z es
   ·obtain⟨z,es,rfl⟩:=ho;obtain⟨k1,k2⟩:=cT k z es h1;refine⟨(yp (show qx S A w (ι k) z es _ from hx) k2).1,fun s hs => ?_⟩;rw[AV.refs,Ah] at hs;subst hs;show zV muts 0 args _≠none;rw[k1];simp
   ·have aC:=kH hx (by cases x<;>first|rfl|exact absurd ⟨_,_,rfl⟩ ho)
    clear h2 hx h1;cases x with
    | own z es=>exact absurd ⟨_,_,rfl⟩ ho
    | _=>exact⟨.of0 aC.2,fun s hs=>(jK aC.2 s hs).elim⟩
 have cY:∀s blk,(enter muts args).hp s=some blk->∃j z es,args[j]? = some (.own z es)∧s=qb muts j∧blk=.arr z es∧jq muts ι 0 args s=ι j:=by
  intro s blk hb;have hb:zV muts 0 args s=some blk:=hb;rcases jC muts ι 0 args s with⟨h1,_⟩|⟨j',z',bj,h1,h2,h3,h4⟩
  ·rw[h1] at hb;cases hb
  ·rw[h3] at hb;cases hb;rw[AY] at h2 h4;exact⟨j',z',bj,h1,h2,rfl,h4⟩
 have iJ:∀s b,jq muts ι 0 args s=some b->∃j z es,args[j]? = some (.own z es)∧s=qb muts j∧zV muts 0 args s=some (.arr z es)∧ι j=some b:=by
  intro s b hs;rcases jC muts ι 0 args s with⟨_,h1⟩|⟨j',z',bj,h1,h2,h3,h4⟩
  ·rw[h1] at hs;cases hs
  ·rw[AY] at h2 h4;exact⟨j',z',bj,h1,h2,h3,h4▸hs⟩
 refine⟨fun k => ?_,fun s blk hb => ?_,fun k s hs => ?_,fun s cs hs => ?_,fun s b hs => ?_,fun s s' b h1 h2 => ?_,hA.1,fun b hb=>.inl hb,.refl _ _,fun s e he => ?_,fun b ⟨i,hi⟩=>(hι.1 i b hi).2.1,fun p hp ⟨i,hi⟩=>(hι.1 i _ hi).2.2.2 p hp rfl,hA.2⟩
 ·rcases aZ k with h|h
  ·rw[h];exact .of0 (.bot _)
  ·exact h.rel
 ·obtain⟨j,z,es,h1,h2,rfl,h4⟩:=cY s blk hb;subst h2;exact (yp (show qx S A w (ι j) z es _ from ha j _ h1) h4).2
 ·rcases aZ k with h|h
  ·rw[h] at hs;simp[AV.refs] at hs
  ·exact h.dang s hs
 ·obtain⟨_,_,_,_,_,h,_⟩:=cY s _ hs;cases h
 ·obtain⟨j,z,es,h1,h2,h3,h4⟩:=iJ s b hs;obtain⟨_,q2,q3,_⟩:=hι.1 j b h4;exact⟨by show zV muts 0 args s≠none;rw[h3];simp,q2,q3,.inr ⟨j,h4⟩⟩
 ·obtain⟨j,_,_,_,e1,_,h4⟩:=iJ s b h1;obtain⟨j',_,_,_,uw,_,fC⟩:=iJ s' b h2;rw[e1,uw,hι.2 j j' b h4 fC]
 ·simp only[zdr] at he;split at he
  ·rename_i hf;split at he
   ·rename_i z es b hz hs;obtain⟨j,z',bj,h1,h2,h3,h4⟩:=cY s _ hz;cases h3;have ho:qx S A w (ι j) z es (vs.getD j undef):=ha j _ h1;obtain⟨_,⟨q1,_,_⟩|⟨b',cap,us,el,q1,_,_,_,q5,_⟩⟩:=ho
    ·rw[h4,q1] at hs;cases hs
    ·obtain rfl:b=b':=Option.some.inj ((hs.symm.trans h4).trans q1);simp only[q5,DM] at he;subst he;refine⟨hf,hs,⟨es,hz,rfl⟩,fun b' aw => ?_⟩;cases aw;exact⟨us,q5,rfl⟩
   ·rename_i z es hz hs;simp only[DM] at he;subst he;exact⟨hf,hs,⟨es,hz,rfl⟩,by simp⟩
   ·cases he
  ·cases he
def zfV {st:ASt} {muts:List Nat} {outs:zdy} (h:zla st muts=some outs) {i:Nat} {es:List (List AV)} (hi:(i,es)∈outs):muts.contains i=true∧i<1000∧∃z,st.hp (1000+i)=some (.arr z es):=by
 obtain⟨h1,h2⟩:=zD h;obtain⟨j,hj⟩:=AA.1 hi;obtain⟨i0,h3,h4⟩:=h2 j _ hj;have hm:=Ae h3;simp only[jx,BH,Ce] at hm;split at h4
 ·rename_i z bj hz;simp only[DM,DN] at h4;obtain⟨rfl,rfl⟩:=h4;exact⟨by simpa[Bf] using hm.1,hm.2,z,hz⟩
 ·cases h4
def zmy {muts:List Nat} {args:List AV} {vs:Array Value} {ι:Nat->Option Nat} (hl:vs.size=args.length) (hn:args.length<=1000) (aR:qT muts 0 args=true)
  (hι:(∀i b,ι i=some b->i<args.length∧b<w.heap.size∧¬A b∧∀p∈S.globB,p≠b)∧∀i j b,ι i=some b->ι j=some b->i=j)
  (ha:∀(i:Nat) (x:AV),args[i]? = some x->zap S A w (ι i) x (vs.getD i undef))
  (h:SRel S A (zdr muts args ι w) w A0 σ w' st tm) {res:List ARes} {r:AV} {outs:zdy} {fn:Func} (h1:zd (zmG S.P) fn.results.toList=some res) (hm:muts≠[]) (he:qE false muts res st=some (r,outs)) :
  ∃v,(results fn tm).run S.P w'=.ok v w'∧zjv S A (ym ι outs) (zcX S args ι vs w w' outs) w w' r v:=by
 unfold qE at he;split at he
 ·rename_i rs pg;simp only[Au,if_false,if_neg hm] at he;split at he
  ·rename_i hnd;split at he
   ·rename_i ys bK dh gU;simp only[DM,DN] at he;obtain⟨rfl,rfl⟩:=he;obtain⟨us,k1,k2,k3⟩:=zfR h h1 pg;obtain⟨d1,d2⟩:=zD dh
    -- what stays the caller's
    have fit:∀(i:Nat) (x:AV),args[i]? = some x->zG x=zA muts i:=by
     have:∀(i:Nat) (l:List AV),qT muts i l=true->∀(j:Nat) (x:AV),l[j]? = some x->zG x=zA muts (i+j):=by
      intro i l
      induction l generalizing i with
      | nil=>intro _ j x h;simp at h
      | cons a l ih =>
       intro h j x hj;simp only[qT,Ai,beq_iff_eq] at h;cases j with
       | zero=>simp at hj;subst hj;simpa using h.1
       | succ j =>
        have:=ih (i+1) h.2 j x (by simpa using hj)
        rwa [show i+1+j=i+(j+1) by omega] at this
     intro i x hi;simpa using this 0 args aR i x hi
    have kept:∀i es,(i,es)∈bK->i<args.length->∃z bm el m,args[i]? = some (.own z bm)∧(zdr muts args ι w).k (1000+i)=some ⟨ι i,z,bm.length,el,m⟩∧(∀b cs bT fz,ι i=some b->w.heap[b]? = some (.cells cs bT fz)->bT=el∧cs.size=m):=by
     intro i es hi aj;obtain⟨c1,c2,_⟩:=zfV gU hi;have hx:=Aa aj;have ho:zG args[i]=true:=by rw[fit i _ hx];simp only[zA,c1,Di,CJ,Ce];exact c2
     cases tn:args[i] with
     | own z bm =>
      rw[tn] at hx;have fJ:qb muts i=1000+i:=by rw[qb,if_pos c1]
      have h0:=mY muts 0 args i z bm hx;rw[AY,fJ] at h0;rcases jC muts ι 0 args (1000+i) with⟨q1,_⟩|⟨j',z',bj,q1,q2,q3,q4⟩
      ·exact absurd q1 h0
      ·rw[AY] at q2 q4;obtain rfl:i=j':=zcm c2 (by have:=(Ac.1 q1).1;omega) (fJ.trans q2);rw[hx] at q1;cases q1;have hf:zcj (1000+i)=true:=by rw[←fJ,zl6 c2];exact c1
       cases hb:ι i with
       | none=>exact⟨z,bm,0,0,hx,by simp only[zdr,if_pos hf,q3,q4,hb],by simp⟩
       | some b =>
        cases hw:w.heap[b]? with
        | none=>exact⟨z,bm,0,0,hx,by simp only[zdr,if_pos hf,q3,q4,hb,hw],fun b' cs bT fz e1 e2=>by cases e1;rw[hw] at e2;cases e2⟩
        | some ob =>
         cases ob with
         | cells cs el fz=>exact⟨z,bm,el,cs.size,hx,by simp only[zdr,if_pos hf,q3,q4,hb,hw],fun b' aJ bT fz' e1 e2=>by cases e1;rw[hw] at e2;cases e2;exact⟨rfl,rfl⟩⟩
         | _=>exact⟨z,bm,0,0,hx,by simp only[zdr,if_pos hf,q3,q4,hb,hw],fun b' aJ bT fz' e1 e2=>by cases e1;rw[hw] at e2;cases e2⟩
     | _=>rw[tn] at ho;simp[zG] at ho
    have hE:∀s b,σ s=some b->zcj s=false->w.heap.size<=b∨ym ι bK b:=by
     intro s b hs hf;rcases (h.dom s b hs).2.2.2 with q|⟨i,hi⟩
     ·exact .inl q
     ·refine .inr ⟨i,hi,fun es eO => ?_⟩;obtain⟨z,bm,el,m,q1,q2,_⟩:=kept i es eO (hι.1 i b hi).1;obtain⟨p1,p2,_⟩:=h.kp _ _ q2;have:=h.inj s (1000+i) b hs (p2.trans hi);rw[this,p1] at hf;cases hf
    have hA:∀b,A0 b->((A b∨ym ι bK b)∨w.heap.size<=b)∧b<w'.heap.size:=by
     intro b hb;refine⟨?_,h.Alt b hb⟩;rcases h.Asub b hb with q|q|⟨i,hi⟩
     ·exact .inl (.inl q)
     ·exact .inr q
     ·refine .inl (.inr ⟨i,hi,fun es eO => ?_⟩);obtain⟨z,bm,el,m,q1,q2,_⟩:=kept i es eO (hι.1 i b hi).1;obtain⟨p1,p2,_⟩:=h.kp _ _ q2;exact (h.dom _ b (p2.trans hi)).2.2.1 hb
    let β:Nat->Option Nat:=fun i=>match rs[i]? with|some (.lsl s z 0 n)=>(match st.hp s with|some (.arr z' es)=>if z=z'∧n=es.length∧zcj s=false then σ s else none|_=>none)|_=>none
    have hβ:∀i b,β i=some b->∃s x,rs[i]? = some x∧s∈x.refs∧σ s=some b∧zcj s=false:=by
     intro i b hb;simp only[β] at hb;split at hb
     ·rename_i s z n hi;split at hb
      ·split at hb
       ·rename_i hc;exact⟨s,_,hi,by simp[AV.refs],hb,hc.2.2⟩
       ·cases hb
      ·cases hb
     ·cases hb
    have fm:∀b,A0 b->qy (fun b=>A b∨ym ι bK b) β w w' b:=fun b hb=>⟨(hA b hb).1,(hA b hb).2,fun i e=>by
     obtain⟨s,x,_,_,hs,_⟩:=hβ i b e;exact (h.dom s b hs).2.2.1 hb⟩
    have parts:∀(i:Nat) (y:AV),ys[i]? = some y->zap S (qy (fun b=>A b∨ym ι bK b) β w w') w' (β i) y (us.getD i undef):=by
     intro i y hy;obtain⟨x0,aC,aH⟩:=d2 i y hy;have hg:=k3 i x0 aC;by_cases hl:∃s z n,x0=.lsl s z 0 n
     ·obtain⟨s,z,n,rfl⟩:=hl;simp only[wj] at aH;split at aH
      ·rename_i z' es hb;split at aH
       ·rename_i az;cases aH;obtain⟨rfl,rfl,cC⟩:=az;have hβi:β i=σ s:=by simp[β,aC,hb,cC]
        rw[hβi];exact qx.mono fm (zin h hg.rel hb)
       ·cases aH
      ·cases aH
     ·have:(if x0.refs.isEmpty then some x0 else none)=some y:=by
       cases x0 with
       | lsl s z off n =>
        cases off with
        | zero=>exact absurd ⟨_,_,_,rfl⟩ hl
        | succ off=>exact aH
       | _=>exact aH
      split at this
      ·rename_i hr;have e:=Option.some.inj this;subst e;have hb:β i=none:=by
        clear aH this;cases x0 with
        | lsl s z off n=>simp[AV.refs] at hr
        | _=>simp[β,aC]
       rw[hb];exact qY ((hg.rel.to0 (by simpa using hr)).mono fm fun _ _=>rfl)
      ·cases this
    refine⟨_,k1, ?_⟩;have hβ1:∀i b,β i=some b->(w.heap.size<=b∨ym ι bK b)∧b<w'.heap.size:=fun i b hb=>(by obtain⟨s,x,_,_,hs,hf⟩:=hβ i b hb;exact⟨hE s b hs hf,(h.dom s b hs).2.1⟩);have hβ2:∀i j b,β i=some b->β j=some b->i=j:=fun i j b hi hj=>(by obtain⟨s,x,q1,q2,q3,_⟩:=hβ i b hi;obtain⟨s',x',oP,oO,oN,_⟩:=hβ j b hj;obtain rfl:=h.inj s s' b q3 oN;exact zlc rs i j x x' s hnd q1 oP q2 oO);have hT:zcX S args ι vs w w' bK (qy (fun b=>A b∨ym ι bK b) β w w'):=by
     intro i es z bm hi hx;obtain⟨z',es0',el,m,q1,q2,q3⟩:=kept i es hi (Ac.1 hx).1;rw[hx] at q1;cases q1;obtain⟨p1,p2,⟨fp,p3,p4⟩,p5⟩:=h.kp _ _ q2;simp only at p2 p3 p4 p5;obtain⟨_,_,z2,c3⟩:=zfV gU hi;rw[p3] at c3;cases c3;have ho:qx S A w (ι i) z bm (vs.getD i undef):=ha i _ hx;obtain⟨b0,bb⟩:=h.hp _ _ p3;refine⟨p4,⟨b0, ?_⟩,fun b cs bT hb hc => ?_⟩
     ·obtain⟨_,⟨o1,o2,o3⟩|⟨b,cap,us',bT,o1,o2,o3,o4,o5,o6,_⟩⟩:=ho
      ·subst o2;exact .inl ⟨o1,AN.1 (by simpa using p4),o3⟩
      ·obtain⟨cs,p6,p7⟩:=p5 b o1;rcases bb with⟨m1,_⟩|⟨b',us2,el2,m1,m2,m3,m4,m5⟩
       ·rw[p2,o1] at m1;cases m1
       ·rw[p2,o1] at m1;cases m1;rw[p6] at m2;cases m2;have aF:=(q3 b us' bT (0,0) o1 o5).2;exact .inr ⟨b,cap,cs,el,o1,by rw[o2,p4],by omega,o4,p6,by omega,m4,fun i' e' c x h1 h2=>(m5 i' e' c x h1 h2).mono fm fun _ _=>rfl⟩
     ·obtain⟨aJ,p6,p7⟩:=p5 b hb;obtain⟨rfl,e2⟩:=q3 b cs bT (0,0) hb hc;exact⟨aJ,p6,by omega⟩
    by_cases oY:us.size=1
    ·rw[dif_pos oY];have e:us[0]=us.getD 0 undef:=by simp[Array.getD,oY]
     match ys,(show ys.length=us.size by omega),parts,d1 with
     | [x],_,parts,d1 =>
      have hx:=parts 0 x rfl;rw[←e] at hx;rw[show qz [x]=x from rfl];by_cases ht:∃rs,x=.tup rs
      ·obtain⟨rs',rfl⟩:=ht;have dp:=kH hx rfl;have cZ:β 0=none:=dp.1;have lV:=dp.2.mono (A':=qy (fun b=>A b∨ym ι bK b) β w w') (fun b hb=>hb) (fun _ _=>rfl);have hβn:∀i,β i=none:=by
        intro i;cases i with
        | zero=>exact cZ
        | succ i =>
         have b9:rs[i+1]? = none:=by
          rw[List.getElem?_eq_none_iff];have:rs.length=1:=by simpa using d1
          omega
         simp only[β,b9]
       generalize us[0]=v at lV;refine⟨β,hβ1,hβ2,hT, ?_⟩;cases lV with
       | tup q1 q2=>exact⟨_,rfl,q1,fun i y hy=>by rw[hβn];exact qY (q2 i y hy)⟩
      ·refine⟨β,hβ1,hβ2,hT, ?_⟩;cases x with
       | tup rs=>exact absurd ⟨rs,rfl⟩ ht
       | _=>exact hx
     | [],hl,_,_=>simp at hl;omega
     | _::_::_,hl,_,_=>simp at hl;omega
    ·rw[dif_neg oY];have e:qz ys=.tup ys:=by
      match ys,(show ys.length=us.size by omega) with
      | [],_=>rfl
      | [x],hl=>simp at hl;omega
      | _::_::_,_=>rfl
     rw[e];exact⟨β,hβ1,hβ2,hT,us,rfl,by omega,parts⟩
   ·cases he
  ·cases he
 ·cases he
def zj8 (hS:zZ S) {g id:Nat} {fn:Func} {f:AFunc} (hg:S.P.funcs[g]? = some fn) (hc:zbw S id fn=some f) (cV:zcd id S.muts≠[]) (cT:S.own.contains id=false) (hD:qn f.body=true∨yR S) {args:List AV} {r:AV} {outs:zdy}
  (hb:BodyR (zb S) f args r outs):wY S g args r outs:=by
 unfold zbw at hc;split at hc
 ·rename_i body res bw aD;split at hc
  ·rename_i az;have ez:=az.1;have hnp:=az.2.resolve_left cV;cases hc;obtain⟨hlen,aR,e,aa,hex,iX,aG⟩:=hb;simp only at hlen aR hex aG hD;rw[cT] at aG;obtain⟨c,eR,im⟩:∃c,fn.body=some c∧jF S fn.ntmps c=some body:=by
    cases eR:fn.body with
    | none=>simp[eR] at bw
    | some c=>simp[eR] at bw;exact⟨c,rfl,bw⟩
   intro A w vs ι hl hA hι hJ ha;have main:c.wp S.P (fun ex a w'=>(ex=.normal∨ex=.ret)∧a.defers=[]∧∃A' σ',zbd S A (zdr (zcd id S.muts) args ι w) w A' σ' w' aa a.tmps) { tmps:=vs++Array.replicate (fn.ntmps-vs.size) undef,defers:=[] } w:=by
    refine wp_mono (Stm.wp (wX hS hex hD im ⟨w,.refl S w,hJ,enterM_ok hl (by omega) hA hι ha _⟩ (by simp;omega))) ?_;rintro ex a w' ⟨q1,q2,q3,q4⟩;refine⟨?_,q2,q4⟩;subst q1;rcases iX with rfl|rfl
    ·exact .inl rfl
    ·exact .inr rfl
   refine calls_of_wp hg eR (wp_mono main ?_);rintro ex a w' ⟨q1,q2,A',σ',w2,r2,j2,q3⟩;have pK:∀i b,ι i=some b->w2.heap[b]? = w.heap[b]?:=fun i b hb=>r2.block b fun e=>hJ.no b e ⟨i,hb⟩;have bE:=r2.keep q3.keep;have hj:=(q3.jpreA j2).jn;rw[←zmu (muts:=zcd id S.muts) (args:=args) pK] at q3;obtain⟨v,k1,k2⟩:=zmy hl (by omega) aR ⟨fun i b hb=>by rw[r2.size];exact hι.1 i b hb,hι.2⟩ (fun i x hx=>(ha i x hx).same (fun b hb=>r2.block b fun e=>hJ.na b e hb) (pK i)) q3 aD cV aG;have k2:=k2.same r2.size.symm fun i b hb=>(pK i b hb).symm;rcases q1 with rfl|rfl
   ·exact⟨q2,v,k1,v,rfl,bE,hj,k2⟩
   ·exact⟨q2,v,k1,v,rfl,bE,hj,k2⟩
  ·cases hc
 ·cases hc
def zmv (hS:zZ S) {g id:Nat} {fn:Func} {f:AFunc} (hg:S.P.funcs[g]? = some fn) (hc:zbw S id fn=some f) (hD:qn f.body=true∨yR S) {args:List AV} {r:AV} {outs:zdy}
  (hb:BodyR (zb S) f args r outs):wY S g args r outs:=by
 by_cases cV:zcd id S.muts=[]
 ·obtain⟨rfl,h⟩:=zj9 hS hg hc cV hD hb;refine yB h (zbA 0 args ?_);have h2:=hb.2.1;unfold zbw at hc;split at hc
  ·split at hc
   ·cases hc;simp only[cV] at h2;exact h2
   ·cases hc
  ·cases hc
 ·refine zj8 hS hg hc cV ?_ hD hb;obtain⟨_,_,e,aa,_,_,aG⟩:=hb;unfold zbw at hc;split at hc
  ·split at hc
   ·cases hc;simp only at aG;cases ho:S.own.contains id with
    | false=>rfl
    | true =>
     rw[ho] at aG;unfold qE at aG;split at aG
     ·simp only[if_true] at aG;split at aG
      ·rename_i hq;exact absurd hq.2 cV
      ·cases aG
     ·cases aG
   ·cases hc
  ·cases hc
def ok_of (hS:zZ S) {G:Nat->Option AFunc} (hG:∀g id,ql g S.fns=some id->∀f,G id=some f->∃fn,S.P.funcs[g]? = some fn∧zbw S id fn=some f) (hD:∀id f,G id=some f->qn f.body=true∨yR S):Ok G (zb S):=by intro id f args r outs hf hb g hg;obtain⟨fn,h1,h2⟩:=hG g id hg f hf;exact zmv hS h1 h2 (hD id f hf) hb
end
end
section
def Ext (h h2:Nat->Option Blk):Prop:=∀s b,h s=some b->h2 s=some b
def zjf {st ai:ASt} {n:Nat} {lo hi:Option AOpd} (h:∀x∈lo.toList++hi.toList,st.ev x=ai.ev x):bounds st n lo hi=bounds ai n lo hi:=by cases lo<;>cases hi<;>simp_all[bounds]
def yZ {α β:Type} {f g:α->Option β}:∀ {l:List α},(∀x∈l,f x=g x)->zd f l=zd g l
 | [],_=>rfl
 | x::r,h=>by
  simp only[zd];rw[h x Ak,yZ fun y hy=>h y (Ad _ hy)]
def zko {h h2:Nat->Option Blk} (he:Ext h h2) {x:AV} {p:List AV×Nat} (hc:cellsAt h x=some p):cellsAt h2 x=some p:=by
 cases x with
 | pv s off =>
  simp only[cellsAt] at hc ⊢;split at hc
  ·rename_i hb;rw[he _ _ hb];exact hc
  ·cases hc
 | pe s z i off =>
  simp only[cellsAt] at hc ⊢;split at hc
  ·rename_i hb;rw[he _ _ hb];exact hc
  ·cases hc
 | ep cs off=>exact hc
 | _=>cases hc
def zeb {h h2:Nat->Option Blk} (he:Ext h h2) {x y:AV} (hc:qo h x=some y):qo h2 x=some y:=by
 cases x with
 | pe s z i off =>
  simp only[qo] at hc ⊢;split at hc
  ·rename_i hb;rw[he _ _ hb];exact hc
  ·cases hc
 | lsl s z off len =>
  simp only[qo] at hc ⊢;split at hc
  ·rename_i hb;rw[he _ _ hb];exact hc
  ·cases hc
 | _=>exact hc
def yq {α β:Type} {f g:α->Option β} (h:∀x y,f x=some y->g x=some y):∀ {l:List α} {ys:List β},zd f l=some ys->zd g l=some ys
 | [],_,hl=>hl
 | x::r,ys,hl=>by
  simp only[zd] at hl ⊢;split at hl
  ·rename_i y bU h1 h2;rw[h x y h1,yq h h2];exact hl
  ·cases hl
def zbM {h h2:Nat->Option Blk} (he:Ext h h2) {x y:AV} (hc:qt h x=some y):qt h2 x=some y:=by
 cases x with
 | pv s off =>
  simp only[qt] at hc ⊢;split at hc
  ·rename_i hb;rw[he _ _ hb];split at hc
   ·rename_i an;have:=yq (g:=qo h2) (fun _ _=>zeb he) an;simp only[this];exact hc
   ·cases hc
  ·cases hc
 | agg cs =>
  simp only[qt] at hc ⊢;split at hc
  ·rename_i an;rw[yq (g:=qo h2) (fun _ _=>zeb he) an];exact hc
  ·cases hc
 | _=>simp only[qt] at hc ⊢;exact zeb he hc
def snap_ext {h h2:Nat->Option Blk} (he:Ext h h2) {x y:AV} (hc:zay h x=some y):zay h2 x=some y:=by
 cases x with
 | fn f cs =>
  simp only[zay] at hc ⊢;split at hc
  ·rename_i an;rw[yq (g:=qt h2) (fun _ _=>zbM he) an];exact hc
  ·cases hc
 | tup cs =>
  simp only[zay] at hc ⊢;split at hc
  ·rename_i an;rw[yq (g:=qt h2) (fun _ _=>zbM he) an];exact hc
  ·cases hc
 | agg cs =>
  simp only[zay] at hc ⊢;split at hc
  ·rename_i an;rw[yq (g:=qt h2) (fun _ _=>zbM he) an];exact hc
  ·cases hc
 | _=>simp only[zay] at hc ⊢;exact zbM he hc
def zdb {h h2:Nat->Option Blk} (he:Ext h h2):∀(i:Nat) (l ys:List AV),zT h [] i l=some ys->zT h2 [] i l=some ys
 | _,[],_,hl=>hl
 | i,x::r,ys,hl=>by
  simp only[zT,zA,CC,DK,Dx,Au,if_false,BO,if_true] at hl ⊢;split at hl
  ·rename_i y bU h1 h2;rw[snap_ext he h1,zdb he (i+1) r bU h2];exact hl
  ·cases hl
def zjq.ext {M:Rets} {f:Nat} {args:List AV} {st ai:ASt} {v:AV} (h:zjq M f args st v) (he:Ext st.hp ai.hp):zjq M f args ai v:=by obtain⟨a,h1,h2⟩:=h;exact⟨a,zdb he _ _ _ h1,h2⟩
def zjk {o:AOp} {d:Nat} {st ai st1:ASt} {v:AV} (hk:o.kind<=1) (hv:∀x∈o.opds,st.ev x=ai.ev x) (he:o.kind=0∨Ext st.hp ai.hp) (h:aop o d st=some (v,st1)) :
  st1=st∧aop o d ai=some (v,ai):=by
 cases o with
 | load n x =>
  have ik:=he.resolve_left (by simp[AOp.kind]);have e:=hv x (by simp[AOp.opds]);simp only[aop] at h ⊢;rw[←e];split at h
  ·rename_i hc;rw[zko ik hc];split at h
   ·rename_i hy;simp only[hy];cases h;exact⟨rfl,rfl⟩
   ·cases h
  ·cases h
 | build zero ps =>
  have e:∀p∈ps,st.ev p.2.2=ai.ev p.2.2:=fun p hp=>hv _ (by simp only[AOp.opds,Al];exact⟨p,hp,rfl⟩);simp only[aop] at h ⊢;split at h
  ·rename_i ps' eu;split at h
   ·rename_i cs an;cases h;have fK:=(yZ (f:=fun (p:Nat×Nat×AOpd)=>match (ai.ev p.2.2).cells with|some cs=>if cs.length=p.2.1 then some (p.1,cs) else none|none=>none) (fun p hp=>by simp only[←e p hp];rfl)).trans eu;refine⟨rfl, ?_⟩
    erw [fK]
    simp only[an]
   ·cases h
  ·cases h
 | lit z zero len ps =>
  have e:∀p∈ps,st.ev p.2=ai.ev p.2:=fun p hp=>hv _ (by simp only[AOp.opds,Al];exact⟨p,hp,rfl⟩);simp only[aop] at h ⊢;split at h
  ·rename_i ps' eu;cases h;have fK:=(yZ (f:=fun (p:Nat×AOpd)=>match (ai.ev p.2).cells with|some cs=>(match zd (qo fun _=>none) cs with|some cs=>if cs.length=z then some (p.1,cs) else none|none=>none)|none=>none) (fun p hp=>by simp only[←e p hp];rfl)).trans eu
   refine⟨rfl, ?_⟩
   erw [fK]
  ·cases h
 | mkfn f xs =>have e:xs.map st.ev=xs.map ai.ev:=Am hv;simp only[aop] at h ⊢;rw[←e];cases h;exact⟨rfl,rfl⟩
 | slc z x lo hi =>
  have e:=hv x (by simp[AOp.opds]);have eb:∀n,bounds st n lo hi=bounds ai n lo hi:=fun n=>zjf fun y hy=>hv y (by simp only[AOp.opds];exact Ad _ hy);simp only[aop] at h ⊢;rw[←e];simp only[←eb]
  repeat' split at h
  all_goals (first|(cases h;done)|skip)
  all_goals simp_all
 | alloc=>simp[AOp.kind] at hk
 | bslice b=>cases b<;>simp[AOp.kind] at hk
 | store=>simp[AOp.kind] at hk
 | box=>simp[AOp.kind] at hk
 | mksl=>simp[AOp.kind] at hk
 | app=>simp[AOp.kind] at hk
 | call=>simp[aop] at h
 | calld=>simp[aop] at h
 | mov x=>have e:=hv x (by simp[AOp.opds]);simp only[aop] at h ⊢;rw[←e];cases h;exact⟨rfl,rfl⟩
 | ifc t x=>have e:=hv x (by simp[AOp.opds]);simp only[aop] at h ⊢;rw[←e];cases h;exact⟨rfl,rfl⟩
 | chk x=>have e:=hv x (by simp[AOp.opds]);simp only[aop] at h ⊢;rw[←e];repeat' split at h;all_goals (first|(cases h;done)|simp_all)
 | eqn sl neg x=>have e:=hv x (by simp[AOp.opds]);simp only[aop] at h ⊢;rw[←e];repeat' split at h;all_goals (first|(cases h;done)|simp_all)
 | un op x=>have e:=hv x (by simp[AOp.opds]);simp only[aop] at h ⊢;rw[←e];repeat' split at h;all_goals (first|(cases h;done)|simp_all)
 | cvi k x=>have e:=hv x (by simp[AOp.opds]);simp only[aop] at h ⊢;rw[←e];repeat' split at h;all_goals (first|(cases h;done)|simp_all)
 | cvs x=>have e:=hv x (by simp[AOp.opds]);simp only[aop] at h ⊢;rw[←e];repeat' split at h;all_goals (first|(cases h;done)|simp_all)
 | fa off x=>have e:=hv x (by simp[AOp.opds]);simp only[aop] at h ⊢;rw[←e];repeat' split at h;all_goals (first|(cases h;done)|simp_all)
 | fld off n x=>have e:=hv x (by simp[AOp.opds]);simp only[aop] at h ⊢;rw[←e];repeat' split at h;all_goals (first|(cases h;done)|simp_all)
 | ext x i=>have e:=hv x (by simp[AOp.opds]);simp only[aop] at h ⊢;rw[←e];repeat' split at h;all_goals (first|(cases h;done)|simp_all)
 | len s x=>have e:=hv x (by simp[AOp.opds]);simp only[aop] at h ⊢;rw[←e];repeat' split at h;all_goals (first|(cases h;done)|simp_all)
 | bin k op x y=>have e:=hv x (by simp[AOp.opds]);have e2:=hv y (by simp[AOp.opds]);simp only[aop] at h ⊢;rw[←e,←e2];repeat' split at h;all_goals (first|(cases h;done)|simp_all)
 | eqa neg sh x y=>have e:=hv x (by simp[AOp.opds]);have e2:=hv y (by simp[AOp.opds]);simp only[aop] at h ⊢;rw[←e,←e2];repeat' split at h;all_goals (first|(cases h;done)|simp_all)
 | ia z x y=>have e:=hv x (by simp[AOp.opds]);have e2:=hv y (by simp[AOp.opds]);simp only[aop] at h ⊢;rw[←e,←e2];repeat' split at h;all_goals (first|(cases h;done)|simp_all)
 | ix x y=>have e:=hv x (by simp[AOp.opds]);have e2:=hv y (by simp[AOp.opds]);simp only[aop] at h ⊢;rw[←e,←e2];repeat' split at h;all_goals (first|(cases h;done)|simp_all)
 | max2 x y=>have e:=hv x (by simp[AOp.opds]);have e2:=hv y (by simp[AOp.opds]);simp only[aop] at h ⊢;rw[←e,←e2];repeat' split at h;all_goals (first|(cases h;done)|simp_all)
 | pick c x y=>have e0:=hv c (by simp[AOp.opds]);have e:=hv x (by simp[AOp.opds]);have e2:=hv y (by simp[AOp.opds]);simp only[aop] at h ⊢;rw[←e0,←e,←e2];repeat' split at h;all_goals (first|(cases h;done)|simp_all)
def zmK {o:AOp} {d:Nat} {st st1:ASt} {v:AV} (hk:o.kind=2∨o.kind=3) (h:aop o d st=some (v,st1)) :
  ∃s blk,st1=st.setH s (some blk)∧(o.kind=2->st.hp s=none)∧∀ai:ASt,ai.hp=st.hp->(∀x∈o.opds,st.ev x=ai.ev x)->aop o d ai=some (v,ai.setH s (some blk)):=by
 cases o with
 | alloc zero =>
  simp only[aop] at h;split at h
  ·rename_i hd;cases h;exact⟨d,_,rfl,fun _=>hd,fun ai h2 _=>by simp only[aop,h2,hd]⟩
  ·cases h
 | bslice b z zero len ps =>
  cases b with
  | true=>simp[AOp.kind] at hk
  | false =>
   simp only[aop] at h;split at h
   ·rename_i ps' hd eu;split at h
    ·rename_i hr;have bO:qX st ps=[]:=by simpa using hr
     rw[bO] at h;simp only[ASt.freezeL] at h;cases h;refine⟨d,_,rfl,fun _=>hd,fun ai h2 hv => ?_⟩;have e:∀p∈ps,st.ev p.2=ai.ev p.2:=fun p hp=>hv _ (by simp only[AOp.opds,Al];exact⟨p,hp,rfl⟩);have ga:qX ai ps=[]:=(by rw[←bO];unfold qX;congr 1;exact Am fun p hp=>(e p hp).symm);have fK:=(yZ (f:=fun (p:Nat×AOpd)=>match (ai.ev p.2).cells with|some cs=>(match zd (qo st.hp) cs with|some cs=>if cs.length=z then some (p.1,cs) else none|none=>none)|none=>none) (fun p hp=>by simp only[←e p hp];rfl)).trans eu
     simp only[aop,h2,hd,ga,or_true,if_true,ASt.freezeL]
     erw [fK]
    ·cases h
   ·cases h
 | store z a x =>
  simp only[aop] at h
  repeat' split at h
  all_goals (first|(cases h;done)|skip)
  all_goals cases h
  all_goals
   refine⟨_,_,rfl,by simp[AOp.kind],fun ai h2 hv => ?_⟩;have e1:=hv a (by simp[AOp.opds]);have e2:=hv x (by simp[AOp.opds]);simp only[aop,h2,←e1,←e2];simp_all
 | load=>simp[AOp.kind] at hk
 | box=>simp[AOp.kind] at hk
 | mksl z zero l c =>
  simp only[aop] at h;split at h
  ·rename_i n c' hd hl hc;split at h
   ·rename_i az;cases h;refine⟨d,_,rfl,fun _=>hd,fun ai h2 hv => ?_⟩;have e1:=hv l (by simp[AOp.opds]);have e2:=hv c (by simp[AOp.opds]);simp only[aop,h2,←e1,←e2,hd,hl,hc];rw[if_pos az]
   ·cases h
  ·cases h
 | app=>simp[AOp.kind] at hk
 | call frz muts f args=>simp[aop] at h
 | calld=>simp[AOp.kind] at hk
 | _=>simp[AOp.kind] at hk
def ev_putO {st:ASt} {d:Option Nat} {v:AV} {x:AOpd} (h:∀n,x=.t n->d≠some n):(st.putO d v).ev x=st.ev x:=by
 cases d with
 | none=>rfl
 | some d =>
  cases x with
  | t n =>have hn:n≠d:=fun e=>h n rfl (by rw[e]);simp only[ASt.putO,ASt.put,ASt.ev,upd,if_neg hn]
  | _=>rfl
def ev_setH {st:ASt} {s:Nat} {b:Option Blk} {x:AOpd}:(st.setH s b).ev x=st.ev x:=by cases x<;>rfl
def zbs {st:ASt} {d:Option Nat} {v:AV}:(st.putO d v).hp=st.hp:=by cases d<;>rfl
def zbQ {st:ASt} {d e:Option Nat} {v x:AV} (h:∀n,d=some n->e≠some n):(st.putO d v).putO e x=(st.putO e x).putO d v:=by
 cases d with
 | none=>rfl
 | some d =>
  cases e with
  | none=>rfl
  | some e =>
   have hn:d≠e:=fun e'=>h d rfl (by rw[e']);simp only[ASt.putO,ASt.put];congr 1;funext k;simp only[upd];by_cases h1:k=e
   ·rw[if_pos h1,if_neg (fun e'=>hn (e'.symm.trans h1)),if_pos h1]
   ·rw[if_neg h1];by_cases h2:k=d
    ·rw[if_pos h2,if_pos h2]
    ·rw[if_neg h2,if_neg h2,if_neg h1]
def setH_putO {st:ASt} {d:Option Nat} {v:AV} {s:Nat} {b:Option Blk}:(st.putO d v).setH s b=(st.setH s b).putO d v:=by cases d<;>rfl
def gval_putO {st:ASt} {d:Option Nat} {v:AV} {g:Option (Nat×Bool)} (h:∀t w,g=some (t,w)->d≠some t):zds (st.putO d v) g=zds st g:=by
 cases g with
 | none=>rfl
 | some p =>
  obtain⟨t,w⟩:=p;have:(st.putO d v).fr t=st.fr t:=by
   cases d with
   | none=>rfl
   | some d =>have hn:t≠d:=fun e=>h t w rfl (by rw[e]);simp only[ASt.putO,ASt.put,upd,if_neg hn]
  simp only[zds,this]
def gval_setH {st:ASt} {s:Nat} {b:Option Blk} {g:Option (Nat×Bool)}:zds (st.setH s b) g=zds st g:=by
 cases g with
 | none=>rfl
 | some p=>rfl
def gval_hp {fr:Nat->AV} {hp hp2:Nat->Option Blk} {g:Option (Nat×Bool)}:zds ⟨fr,hp⟩ g=zds ⟨fr,hp2⟩ g:=by
 cases g with
 | none=>rfl
 | some p=>rfl
def ziT {d:Option Nat} {l:List Nat} (h:zfC d l=false):∀n,n∈l->d≠some n:=by intro n hn e;subst e;simp only[zfC,Bf,decide_eq_false_iff_not] at h;exact h hn
def zco {o:AOper} {st:ASt} {d:Option Nat} {v:AV} (h:zfC d o.seen=false):∀x∈o.op.opds,(st.putO d v).ev x=st.ev x:=by intro x hx;refine ev_putO fun n e=>ziT h n ?_;subst e;simp only[AOper.seen,Aj,List.mem_filterMap];exact .inl ⟨_,hx,rfl⟩
def wP {o:AOper} {st:ASt} {d:Option Nat} {v:AV} (h:zfC d o.seen=false):zds (st.putO d v) o.grd=zds st o.grd:=by refine gval_putO fun t w e=>ziT h t ?_;simp only[AOper.seen,Aj,e];exact .inr (Ah.2 rfl)
def zcl {M:Rets} {o:AOp} {d:Nat} {st st1:ASt} {v:AV} (hk:o.kind<=1) (h:jt M true o d st v st1) :
  st1=st∧∀ai:ASt,(∀x∈o.opds,st.ev x=ai.ev x)->(o.kind=0∨Ext st.hp ai.hp)->jt M true o d ai v ai:=by
 cases o with
 | call frz muts f args =>
  obtain rfl:muts=[]:=by
   match muts,hk with
   | [],_=>rfl
   | [k],hk=>simp only[AOp.kind] at hk;split at hk<;>omega
   | _::_::_,hk=>simp[AOp.kind] at hk
  simp only[jt,and_self,if_true] at h ⊢;obtain⟨rfl,hc⟩:=h;refine⟨rfl,fun ai hv he=>⟨trivial, ?_⟩⟩;have e:args.map st1.ev=args.map ai.ev:=Am hv;rw[←e];exact hc.ext (he.resolve_left (by simp[AOp.kind]))
 | calld frz x args =>
  simp only[jt,if_true] at h;split at h
  ·rename_i f caps hx;obtain⟨rfl,hc⟩:=h;refine⟨rfl,fun ai hv he => ?_⟩;have ex:=hv x (by simp[AOp.opds]);simp only[jt,if_true,←ex,hx];rw[←Am (f:=st1.ev) (g:=ai.ev) fun y hy=>hv y (by simp[AOp.opds,hy])];exact⟨trivial,hc.ext (he.resolve_left (by simp[AOp.kind]))⟩
  ·exact h.elim
 | _ =>have h':aop _ d st=some (v,st1):=h;refine⟨(zjk hk (fun _ _=>rfl) (.inr fun _ _ h=>h) h').1,fun ai hv he => ?_⟩;exact (zjk hk hv he h').2
def nU (i:Nat):zA [3000] i=false:=by
 simp only[zA,List.contains_cons,CC,Bool.or_false,Dp,B0,beq_eq_false_iff_ne];by_cases h:i<1000
 ·exact .inr ⟨by omega,by omega⟩
 ·refine .inl ?_;cases hb:Nat.blt i 1000 with
  | false=>rfl
  | true=>rw[Ce] at hb;exact absurd hb h
def ziB:∀(i:Nat) (l:List AV),z8 [3000] i l=[]
 | _,[]=>rfl
 | i,x::r=>by simp only[z8,nU,Au,if_false,AJ];exact ziB (i+1) r
def sy:∀(i:Nat) (l:List AV),zM [3000] i l=[]
 | _,[]=>rfl
 | i,x::r=>by simp only[zM,nU,Dw,Au,if_false,AJ];exact sy (i+1) r
def zeB {d:Nat}:∀ {i:Nat} {l ys:List AV} {st st1:ASt},zdq d i l st=some (ys,st1)->st1.fr=st.fr∧Ext st.hp st1.hp∧∀ai:ASt,ai.hp=st.hp->zdq d i l ai=some (ys,⟨ai.fr,st1.hp⟩)
 | i,[],ys,st,st1,h=>by
  simp only[zdq,DM,DN] at h;obtain⟨rfl,rfl⟩:=h;exact⟨rfl,fun _ _ h=>h,fun ai h2=>by simp only[zdq,←h2]⟩
 | i,x::r,ys,st,st1,h=>by
  have other:(match zdq d (i+1) r st with|some (ys,aa)=>some (x::ys,aa)|none=>none)=some (ys,st1)->(∀ai:ASt,zdq d i (x::r) ai=(match zdq d (i+1) r ai with|some (ys,aa)=>some (x::ys,aa)|none=>none))->st1.fr=st.fr∧Ext st.hp st1.hp∧∀ai:ASt,ai.hp=st.hp->zdq d i (x::r) ai=some (ys,⟨ai.fr,st1.hp⟩):=by
   intro h hx;split at h
   ·rename_i bU aa e;cases h;obtain⟨k1,k2,k3⟩:=zeB e;exact⟨k1,k2,fun ai h2=>by rw[hx,k3 ai h2]⟩
   ·cases h
  cases x with
  | own z es =>
   simp only[zdq] at h;split at h
   ·rename_i bU aa e1 e2;cases h;obtain⟨k1,k2,k3⟩:=zeB e2;refine⟨k1,fun s b hb=>k2 s b ?_,fun ai h2 => ?_⟩
    ·simp only[ASt.setH,upd];split
     ·rename_i e;subst e;rw[e1] at hb;cases hb
     ·exact hb
    ·have:=k3 (ai.setH (d+10000*(i+1)) (some (.arr z es))) (by simp only[ASt.setH,h2]);simp only[zdq,h2,e1,this];rfl
   ·cases h
  | _=>exact other h fun _=>rfl
def imp_spec {d:Nat} {r v:AV} {st st1:ASt} (h:imp d r st=some (v,st1)):st1.fr=st.fr∧Ext st.hp st1.hp∧∀ai:ASt,ai.hp=st.hp->imp d r ai=some (v,⟨ai.fr,st1.hp⟩):=by
 cases r with
 | own z es =>
  simp only[imp] at h;split at h
  ·rename_i e;cases h;refine⟨rfl,fun s b hb => ?_,fun ai h2=>by simp only[imp,h2,e,ASt.setH]⟩;simp only[ASt.setH,upd];split
   ·rename_i e';subst e';rw[e] at hb;cases hb
   ·exact hb
  ·cases h
 | tup vs =>
  simp only[imp] at h;split at h
  ·rename_i ys aa e;cases h;obtain⟨k1,k2,k3⟩:=zeB e;exact⟨k1,k2,fun ai h2=>by simp only[imp,k3 ai h2]⟩
  ·cases h
 | _ =>simp only[imp,DM,DN] at h;obtain⟨rfl,rfl⟩:=h;exact⟨rfl,fun _ _ h=>h,fun ai h2=>by simp only[imp,←h2]⟩
def callR3 {M:Rets} {frz:Bool} {f:Nat} {args:List AV} {d:Nat} {st st1:ASt} {v:AV}:zbE M frz [3000] f args d st v st1↔∃ak r,zT st.hp [3000] 0 args=some ak∧M.ret f ak r []∧imp d r st=some (v,st1):=by
 unfold zbE;rw[ziB,sy];constructor
 ·rintro⟨ak,r,outs,s1,s2,h1,_,h3,h4,⟨_,h5,h6⟩,h7⟩;have ho:outs=[]:=List.map_eq_nil_iff.1 h5;subst ho;simp only[List.isEmpty_cons,Au,if_false,settle,or_true,if_true,DM] at h4;subst h4;simp only[zab,ASt.dropL,DM] at h6;subst h6;exact⟨ak,r,h1,h3,h7⟩
 ·rintro⟨ak,r,h1,h3,h7⟩;exact⟨ak,r,[],st,st,h1,rfl,h3,by simp[settle],⟨rfl,rfl,rfl⟩,h7⟩
def zjC {M:Rets} {o:AOp} {d:Nat} {st st1:ASt} {v:AV} (hk:o.kind=2∨o.kind=3) (h:jt M true o d st v st1) :
  ∃cp,st1=⟨st.fr,cp⟩∧(o.kind=2->Ext st.hp cp)∧∀ai:ASt,ai.hp=st.hp->(∀x∈o.opds,st.ev x=ai.ev x)->jt M true o d ai v ⟨ai.fr,cp⟩:=by
 have plain:(∃s blk,st1=st.setH s (some blk)∧(o.kind=2->st.hp s=none)∧∀ai:ASt,ai.hp=st.hp->(∀x∈o.opds,st.ev x=ai.ev x)->jt M true o d ai v (ai.setH s (some blk))) ->
   ∃cp,st1=⟨st.fr,cp⟩∧(o.kind=2->Ext st.hp cp)∧∀ai:ASt,ai.hp=st.hp->(∀x∈o.opds,st.ev x=ai.ev x)->jt M true o d ai v ⟨ai.fr,cp⟩:=by
  rintro⟨s,blk,rfl,k1,k2⟩;refine⟨_,rfl,fun hk s' b hb => ?_,fun ai h2 hv => ?_⟩
  ·simp only[ASt.setH,upd];split
   ·rename_i e;subst e;rw[k1 hk] at hb;cases hb
   ·exact hb
  ·have:=k2 ai h2 hv;simp only[ASt.setH,h2] at this;exact this
 cases o with
 | call frz muts f args =>
  obtain rfl:muts=[3000]:=by
   match muts,hk with
   | [],hk=>simp[AOp.kind] at hk
   | [k],hk =>
    simp only[AOp.kind] at hk;split at hk
    ·rename_i e;rw[Bt e]
    ·omega
   | _::_::_,hk=>simp[AOp.kind] at hk
  have hs:zbE M frz [3000] f (args.map st.ev) d st v st1:=(by simpa[jt] using h);obtain⟨ak,r,h1,h2,h3⟩:=callR3.1 hs;obtain⟨k1,k2,k3⟩:=imp_spec h3;obtain⟨fr1,nI⟩:=st1;simp only at k1 k2 k3;subst k1;refine⟨nI,rfl,fun _=>k2,fun ai e2 hv => ?_⟩;have e:args.map st.ev=args.map ai.ev:=Am hv;have:zbE M frz [3000] f (args.map ai.ev) d ai v ⟨ai.fr,nI⟩:=callR3.2 ⟨ak,r,by rw[←e,e2];exact h1,h2,k3 ai e2⟩;simpa[jt] using this
 | calld=>simp[AOp.kind] at hk
 | _=>exact plain (zmK hk h)
def ASt.setHo (st:ASt):Option (Nat×Blk)->ASt
 | none=>st
 | some (d,b)=>st.setH d (some b)
def mk_op {M:Rets} {k:AOper} {st s1:ASt} (hm:k.op.isMk=true) (h:OpR M true k st s1) :
  ∃(f:Option (Nat×Blk)) (v:AV),s1=(st.setHo f).putO k.dst v∧(∀d b,f=some (d,b)->st.hp d=none) ∧
   ∀x:ASt,(∀y∈k.op.opds,st.ev y=x.ev y)->zds x k.grd=zds st k.grd->(∀d b,f=some (d,b)->x.hp d=none)->OpR M true k x ((x.setHo f).putO k.dst v):=by
 rcases h with⟨g,v,st1,hs,rfl⟩|⟨g,rfl⟩
 ·cases dO:k.op with
  | mksl z zero l c =>
   rw[dO] at hs;have hs:aop (.mksl z zero l c) (k.dst.getD 0) st=some (v,st1):=hs;simp only[aop] at hs;split at hs
   ·rename_i n c' hd hl hc;split at hs
    ·rename_i az;cases hs;refine⟨some (k.dst.getD 0,_),_,rfl,fun d b e=>by cases e;exact hd,fun x hv hg hx=>.inl ⟨hg.trans g,_,_, ?_,rfl⟩⟩;have e1:=hv l (by simp[AOp.opds]);have e2:=hv c (by simp[AOp.opds]);rw[dO];show aop (.mksl z zero l c) (k.dst.getD 0) x=_;simp only[aop,←e1,←e2,hx _ _ rfl,hl,hc];rw[if_pos az];rfl
    ·cases hs
   ·cases hs
  | _=>rw[dO] at hm;cases hm
 ·exact⟨none,ud,rfl,(fun d b e=>by cases e),fun x hv hg hx=>.inr ⟨hg.trans g,rfl⟩⟩
def zfO {st:ASt} {d:Option Nat} {v:AV} {f:Option (Nat×Blk)}:(st.putO d v).setHo f=(st.setHo f).putO d v:=by
 cases f with
 | none=>rfl
 | some p=>exact setH_putO
def zl7 {st:ASt} {f g:Option (Nat×Blk)} (h:∀d b e c,f=some (d,b)->g=some (e,c)->d≠e):(st.setHo f).setHo g=(st.setHo g).setHo f:=by
 cases f with
 | none=>rfl
 | some p =>
  cases g with
  | none=>rfl
  | some q =>
   have ah:=h p.1 p.2 q.1 q.2 rfl rfl;simp only[ASt.setHo,ASt.setH,ASt.mk.injEq,true_and];funext k;simp only[upd];by_cases e1:k=q.1
   ·by_cases e2:k=p.1
    ·exact absurd (e2.symm.trans e1) ah
    ·rw[if_pos e1,if_neg e2,if_pos e1]
   ·by_cases e2:k=p.1
    ·rw[if_neg e1,if_pos e2,if_pos e2]
    ·rw[if_neg e1,if_neg e2,if_neg e2,if_neg e1]
def zlu {st:ASt} {f:Option (Nat×Blk)} {x:AOpd}:(st.setHo f).ev x=st.ev x:=by
 cases f with
 | none=>rfl
 | some p=>exact ev_setH
def sN {st:ASt} {f:Option (Nat×Blk)} {g:Option (Nat×Bool)}:zds (st.setHo f) g=zds st g:=by
 cases f with
 | none=>rfl
 | some p=>exact gval_setH
def swap_mk {M:Rets} {k i:AOper} {st s1 s2:ASt} (hk:k.op.isMk=true) (hi:i.op.isMk=true) (p1:zfC k.dst i.seen=false) (p2:zfC i.dst k.seen=false) (ah:∀n,k.dst=some n->i.dst≠some n) (h1:OpR M true k st s1) (h2:OpR M true i s1 s2):∃gJ,OpR M true i st gJ∧OpR M true k gJ s2:=by
 obtain⟨f,v,rfl,f1,f2⟩:=mk_op hk h1;obtain⟨g,u,rfl,g1,g2⟩:=mk_op hi h2;have hd:∀d b e c,f=some (d,b)->g=some (e,c)->d≠e:=(by intro d b e c hf hg hde;subst hde;have:=g1 d c hg;rw[hf,zbs] at this;simp[ASt.setHo,ASt.setH,upd] at this);refine⟨(st.setHo g).putO i.dst u,g2 st (fun y hy=>by rw[zco p1 y hy,zlu]) (by rw[wP p1,sN]) (fun d b hg => ?_), ?_⟩
 ·have:=g1 d b hg;rw[zbs] at this;cases f with
  | none=>exact this
  | some p =>have ah:=hd p.1 p.2 d b rfl hg;simpa[ASt.setHo,ASt.setH,upd,Ne.symm ah] using this
 ·have:=f2 ((st.setHo g).putO i.dst u) (fun y hy=>by rw[zco p2 y hy,zlu]) (by rw[wP p2,sN]) (fun d b hf=>by
   rw[zbs];have h0:=f1 d b hf;cases g with
   | none=>exact h0
   | some p =>
    have ah:=hd d b p.1 p.2 hf rfl;simpa[ASt.setHo,ASt.setH,upd,ah] using h0)
  rw[zfO,zl7 (fun d b e c h1 h2=>(hd e c d b h2 h1).symm),zbQ (fun n e1 e2=>ah n e2 e1)] at this;rw[zfO];exact this
def swap {M:Rets} {k i:AOper} {st s1 s2:ASt} (hp:zei k i=true) (h1:OpR M true k st s1) (h2:OpR M true i s1 s2):∃gJ,OpR M true i st gJ∧OpR M true k gJ s2:=by
 simp only[zei,Ai,B5,beq_iff_eq,Ce,AU] at hp;obtain⟨⟨⟨hk,p1⟩,p2⟩,p3⟩:=hp;have ah:∀n,k.dst=some n->i.dst≠some n:=(by intro n e1 e2;rw[e1,e2] at p3;simp[zfC] at p3);rcases hk with hk|⟨cW,cx⟩
 case inr=>exact swap_mk cW cx p1 p2 ah h1 h2
 have ic:k.op.kind<=1:=by omega
 -- k at a state that differs from st as i makes it differ
 have kat:∀(vk:AV) (x:ASt),(∀y∈k.op.opds,st.ev y=x.ev y)->zds x k.grd=zds st k.grd->(k.op.kind=0∨Ext st.hp x.hp)->s1=st.putO k.dst vk->(∃vk,s1=st.putO k.dst vk∧OpR M true k x (x.putO k.dst vk)):=by
  intro vk x hv hg he _;rcases h1 with⟨g,v,st1,hs,e⟩|⟨g,e⟩
  ·obtain⟨rfl,q⟩:=zcl ic hs;exact⟨v,e,.inl ⟨hg.trans g,v,x,q x hv he,rfl⟩⟩
  ·exact⟨ud,e,.inr ⟨hg.trans g,rfl⟩⟩
 obtain⟨vk,aM⟩:∃vk,s1=st.putO k.dst vk:=by
  rcases h1 with⟨g,v,st1,hs,e⟩|⟨g,e⟩
  ·obtain⟨rfl,q⟩:=zcl ic hs;exact⟨v,e⟩
  ·exact⟨ud,e⟩
 have putinj:∀v v':AV,st.putO k.dst v=st.putO k.dst v'->∀y:ASt,y.putO k.dst v=y.putO k.dst v':=by
  intro v v' e y;cases hd:k.dst with
  | none=>rfl
  | some d =>rw[hd] at e;have:=congrArg (fun z:ASt=>z.fr d) e;simp only[ASt.putO,ASt.put,upd,if_true] at this;rw[this]
 have pU:zds s1 i.grd=zds st i.grd:=by rw[aM];exact wP p1
 have nO:∀x∈i.op.opds,s1.ev x=st.ev x:=by rw[aM];exact zco p1
 have cy:s1.hp=st.hp:=by rw[aM];exact zbs
 rcases h2 with⟨g2,vi,sx,dN,rfl⟩|⟨g2,rfl⟩
 ·by_cases hi:i.op.kind<=1
  ·obtain⟨rfl,q⟩:=zcl hi dN;refine⟨st.putO i.dst vi,.inl ⟨pU▸g2,vi,st,q st nO (.inr (cy▸fun _ _ h=>h)),rfl⟩, ?_⟩;obtain⟨oJ,e',aA⟩:=kat vk (st.putO i.dst vi) (fun y hy=>(zco p2 y hy).symm) (wP p2) (.inr (by rw[zbs];exact fun _ _ h=>h)) aM;rw[e',zbQ ah];exact aA
  ·obtain⟨cp,rfl,hf,q⟩:=zjC (by omega) dN;refine⟨(⟨st.fr,cp⟩:ASt).putO i.dst vi,.inl ⟨pU▸g2,vi,_,q st cy.symm nO,rfl⟩, ?_⟩;obtain⟨oJ,e',aA⟩:=kat vk ((⟨st.fr,cp⟩:ASt).putO i.dst vi) (fun y hy=>by rw[zco p2 y hy];cases y<;>rfl) (by rw[wP p2];exact gval_hp) (by
    by_cases h2:i.op.kind=2
    ·refine .inr ?_;rw[zbs];intro s' b hb;exact hf h2 s' b (by rw[cy];exact hb)
    ·exact .inl (by omega)) aM
   have e3:(⟨s1.fr,cp⟩:ASt)=(⟨st.fr,cp⟩:ASt).putO k.dst oJ:=by rw[e'];cases k.dst<;>rfl
   rw[e3,zbQ ah];exact aA
 ·refine⟨st.putO i.dst ud,.inr ⟨pU▸g2,rfl⟩, ?_⟩;obtain⟨oJ,e',aA⟩:=kat vk (st.putO i.dst ud) (fun y hy=>(zco p2 y hy).symm) (wP p2) (.inr (by rw[zbs];exact fun _ _ h=>h)) aM;rw[e',zbQ ah];exact aA
def front {M:Rets} {i:AOper} {R2:List AOper}:∀(R1:List AOper) {st aa:ASt},(∀k∈R1,zei k i=true)->OpsR M true (R1++i::R2) st aa->∃s1,OpR M true i st s1∧OpsR M true (R1++R2) s1 aa
 | [],st,aa,_,h=>by
  cases h with
  | cv hq=>cases hq
  | cons h1 h2=>exact⟨_,h1,h2⟩
 | k::R1,st,aa,hp,h=>by
  cases h with
  | cv hq=>cases hq
  | cons h1 h2 =>obtain⟨s1,q1,q2⟩:=front R1 (fun x hx=>hp x (Ad _ hx)) h2;obtain⟨gJ,q3,q4⟩:=swap (hp k Ak) h1 q1;exact⟨gJ,q3,.cons q4 q2⟩
def OpR.loud {M:Rets} {o:AOper} {st aa:ASt} (h:OpR M true o st aa):OpR M false o st aa:=by
 rcases h with⟨g,v,st1,hs,e⟩|h
 ·refine .inl ⟨g,v,st1, ?_,e⟩;generalize o.op=op at hs;cases op with
  | call frz muts f args =>
   simp only[jt,true_and] at hs;simp only[jt,Au,false_and,if_false];split at hs
   ·rename_i hm;subst hm;obtain⟨rfl,hc⟩:=hs;exact hc.loud
   ·exact hs
  | calld frz x args =>
   simp only[jt,if_true] at hs;simp only[jt,Au,if_false];split at hs
   ·obtain⟨rfl,hc⟩:=hs;exact hc.loud
   ·exact hs.elim
  | _=>exact hs
 ·exact .inr h
end
section
open Go Go.RowKit
def sM (acc:List Nat) (k:Nat):∀(l:List Nat) (s:Nat),(l.foldl (fun s j=>s ||| (2 ^ j ||| acc.getD j 0)) s).testBit k=true->s.testBit k=true∨∃j∈l,k=j∨(acc.getD j 0).testBit k=true
 | [],s,h=>.inl h
 | j::l,s,h=>by
  simp only[Be] at h;rcases sM acc k l _ h with h|⟨j',h1,h2⟩
  ·simp only[Nat.testBit_or,B5] at h;rcases h with h|h|h
   ·exact .inl h
   ·refine .inr ⟨j,Ak,.inl ?_⟩;rw[Nat.testBit_two_pow] at h;exact (of_decide_eq_true h).symm
   ·exact .inr ⟨j,Ak,.inr h⟩
  ·exact .inr ⟨j',Ad _ h1,h2⟩
def zft (acc:List Nat) (o:AOper):List Nat:=acc++[o.aft.foldl (fun s j=>s ||| (2 ^ j ||| acc.getD j 0)) 0]
def zlW (l:List AOper) (b:List Nat) (n:Nat):Prop:=b.length=n∧∀(i k:Nat) (o:AOper),i<n->l[i]? = some o->(b.getD i 0).testBit k=true->∃j∈o.aft,k=j∨(j<i∧(b.getD j 0).testBit k=true)
def zbj (l:List AOper):∀(r p:List AOper) (acc:List Nat),l=p++r->(∀(i j:Nat) (o:AOper),l[i]? = some o->j∈o.aft->j<i)->zlW l acc p.length->zlW l (r.foldl zft acc) l.length
 | [],p,acc,h,_,hc=>by
  simp only[Bl] at h;subst h;exact hc
 | o::r,p,acc,h,ha,hc=>by
  have h':l=(p++[o])++r:=by rw[h];simp
  refine zbj l r (p++[o]) _ h' ha ⟨by simp[zft,hc.1],fun i k o' hi ho hb => ?_⟩;have hlen:=hc.1;by_cases aj:i<p.length
  ·have e:(zft acc o).getD i 0=acc.getD i 0:=(by simp only[zft,An];rw[AG (by omega)]);rw[e] at hb;obtain⟨j,h1,h2⟩:=hc.2 i k o' aj ho hb;refine⟨j,h1,h2.imp id fun⟨h3,h4⟩=>⟨h3, ?_⟩⟩;have e2:(zft acc o).getD j 0=acc.getD j 0:=(by simp only[zft,An];rw[AG (by omega)]);rw[e2];exact h4
  ·have aQ:i=p.length:=by simp at hi;omega
   subst aQ;have gV:o'=o:=(by rw[h] at ho;simp at ho;exact ho.symm);subst gV;have e:(zft acc o').getD p.length 0=o'.aft.foldl (fun s j=>s ||| (2 ^ j ||| acc.getD j 0)) 0:=(by simp only[zft,An];rw[AM (by omega)];simp[hlen]);rw[e] at hb;rcases sM acc k _ _ hb with hb|⟨j,h1,h2⟩
   ·simp at hb
   ·have hj:=ha p.length j o' (by rw[h];simp) h1;refine⟨j,h1,h2.imp id fun h3=>⟨hj, ?_⟩⟩;have e2:(zft acc o').getD j 0=acc.getD j 0:=(by simp only[zft,An];rw[AG (by omega)]);rw[e2];exact h3
def zim {f:Nat->Nat->Bool}:∀ {l:List Nat},mS f l=true->l.Pairwise fun a b=>f a b=true
 | [],_=>.nil
 | a::r,h=>by
  simp only[mS,Ai,Af] at h;exact .cons h.1 (zim h.2)
def zi5 {l:List AOper} (h:zhd l=true) :
  (∀(i j:Nat) (o:AOper),l[i]? = some o->j∈o.aft->j<i)∧(∀i,i∈zkg l↔i<l.length) ∧
  (zkg l).Pairwise fun k i=>k≠i∧∀(p o:AOper),l[k]? = some p->l[i]? = some o->i∉p.aft∧(((zaN l).getD i 0).testBit k=true∨zei p o=true):=by
 simp only[zhd,Ai] at h;obtain⟨⟨⟨h1,h2⟩,h3⟩,h4⟩:=h;refine⟨fun i j o ho hj => ?_,fun i=>⟨fun hi => ?_,fun hi => ?_⟩,(zim h4).imp fun {k i} hp => ?_⟩
 ·have aj:i<l.length:=(Ac.1 ho).1;have:=Af.1 h1 i (AR.2 aj);rw[ho] at this;simpa[Ce] using Af.1 this j hj
 ·simpa[Ce] using Af.1 h2 i hi
 ·have:=Af.1 h3 i (AR.2 hi);simpa[Bf] using this
 ·simp only[zlx,Ai,AU] at hp;refine⟨fun e => ?_,fun p o hk hi => ?_⟩
  ·subst e;have:=hp.1;simp at this
  ·have:=hp.2;rw[hk,hi] at this;simp only[Ai,AU,B5,Bf,decide_eq_false_iff_not] at this;exact this
def zhv {l:List AOper} (hc:zlW l (zaN l) l.length) {L:Nat->Prop} (hL:∀(i j:Nat) (o:AOper),L i->l[i]? = some o->j∈o.aft->L j) (hl:∀(i j:Nat) (o:AOper),l[i]? = some o->j∈o.aft->j<i) :
  ∀(n i k:Nat) (o:AOper),i<n->l[i]? = some o->(∀j∈o.aft,L j)->((zaN l).getD i 0).testBit k=true->L k:=by
 intro n
 induction n with
 | zero=>intro i k o hi;omega
 | succ n ih =>
  intro i k o hi ho ha hb;obtain⟨j,h1,h2⟩:=hc.2 i k o (Ac.1 ho).1 ho hb;rcases h2 with rfl|⟨h3,h4⟩
  ·exact ha _ h1
  ·have hj:j<l.length:=Nat.lt_trans h3 (Ac.1 ho).1;exact ih j k l[j] (by omega) (Aa hj) (fun j' bA=>hL j j' l[j] (ha j h1) (Aa hj) bA) h4
def zeo:∀(l r:List Nat),l.Nodup->(∀x∈l,x∈r)->l.length<=r.length
 | [],r,_,_=>BM _
 | a::l,r,hn,h=>by
  have ha:=h a Ak;obtain⟨h1,h2⟩:=BS.1 hn;have:=zeo l (r.erase a) h2 fun x hx=>(Dt (show x≠a from fun e=>by subst e;exact h1 hx)).2 (h x (Ad _ hx));rw[Da ha] at this;have hr:0<r.length:=Dg ha;simp only[Ax];omega
def nodup_le (n:Nat) (l:List Nat) (hn:l.Nodup) (h:∀x∈l,x<n):l.length<=n:=by have:=zeo l (List.range n) hn fun x hx=>AR.2 (h x hx);simpa using this
def zjd {S:Seat} {nt:Nat} {ops:Array Oper} {o:Oper} {a:AOper} (h:zhq S nt ops true o=some a):a.aft=(o.after.toList.filter (Region.binds .any)).map (·.on):=by
 unfold zhq at h;split at h
 ·split at h
  ·cases h;rfl
  ·cases h
 ·cases h
def zmo {listed:Array Bool} {i j:Nat} (hi:i<listed.size):(listed.setIfInBounds i true).getD j true=if j=i then true else listed.getD j true:=by
 simp only[Ao,Array.getElem?_setIfInBounds];by_cases h:i=j
 ·subst h;simp[hi]
 ·rw[if_neg h,if_neg (fun e=>h e.symm)]
def mem_ready {ops:Array Oper} {listed:Array Bool} {i:Nat}:i∈Region.ready .any ops listed↔i<ops.size∧listed.getD i true=false∧∃o,ops[i]? = some o∧∀e∈o.after,Region.binds .any e=true->listed.getD e.on false=true:=by
 simp only[Region.ready,BH,AR,Ai,AU];constructor
 ·rintro⟨h1,h2,h3⟩;refine⟨h1,h2,ops[i],Bh h1,fun e he hb => ?_⟩;rw[Bh h1] at h3;simp only[AQ,A7,Array.all_eq_true'] at h3;have:=h3 e he;simpa[hb] using this
 ·rintro⟨h1,h2,o,h3,h4⟩;refine⟨h1,h2, ?_⟩;rw[h3];simp only[AQ,A7,Array.all_eq_true'];intro e he;cases hb:Region.binds .any e with
  | false=>simp
  | true=>simp[h4 e he hb]
def zly {S:Seat} (hS:zZ S):yR S:=by
 intro A0 O w0 nt ops la id st aa A σ w tm Q pH hdst hm ru hr h hn hk;obtain⟨fF,fE,gI⟩:=zi5 ru;have aT:zlW la (zaN la) la.length:=zbj la la [] [] rfl fF ⟨rfl,fun i k o hi=>by simp at hi⟩;obtain⟨l1,l2⟩:=zD pH;have nu:la.length=ops.size:=by simpa using l1.symm
 refine wp_region_any hm ?_
 have key:∀(n:Nat) (R:List Nat) (listed:Array Bool) (st:ASt) (A:Nat->Prop) (σ:Nat->Option Nat) (w:World) (tm:Array Value),R.length=n->listed.size=ops.size->R.Pairwise (fun k i=>k≠i∧∀(p o:AOper),la[k]? = some p->la[i]? = some o->i∉p.aft∧(((zaN la).getD i 0).testBit k=true∨zei p o=true))->(∀i,i∈R↔i<ops.size∧listed.getD i true=false) ->
   (∀(i j:Nat) (o:AOper),(i<la.length∧i∉R)->la[i]? = some o->j∈o.aft->(j<la.length∧j∉R))->OpsR (zb S) true (R.map fun i=>la.getD i dOp) st aa->zbd S A0 O w0 A σ w st tm->tm.size=nt->wpAny S.P .any ops Q n listed ⟨tm,[]⟩ w:=by
  intro n
  induction n with
  | zero =>
   intro R listed st A σ w tm hlen aF gQ aP kk hr h hn;have hR:R=[]:=AN.1 hlen;subst hR;simp only[Bn] at hr;cases hr with
   | cv hq=>cases hq
   | nil =>
   refine⟨?_,hk w A σ tm h hn⟩;refine AF.2 fun i hi => ?_;obtain⟨h1,h2,_⟩:=mem_ready.1 hi;exact absurd ((aP i).2 ⟨h1,h2⟩) (by simp)
  | succ n ih =>
   intro R listed st A σ w tm hlen aF gQ aP kk hr h hn;have notin:∀j,j<ops.size->j∉R->listed.getD j true=true∧listed.getD j false=true:=by
    intro j hj hjR;have h1:listed.getD j true=true:=by
     cases hq:listed.getD j true with
     | true=>rfl
     | false=>exact absurd ((aP j).2 ⟨hj,hq⟩) hjR
    refine⟨h1, ?_⟩;have bA:j<listed.size:=by omega
    simp only[Array.getD,bA,dif_pos] at h1 ⊢;exact h1
   refine⟨fun cU => ?_,fun i hi => ?_⟩
   ·exfalso
    match R,hlen,gQ,aP with
    | i::R,_,gQ,aP =>
     have hi:=(aP i).1 Ak;have nK:i∈Region.ready .any ops listed:=by
      refine mem_ready.2 ⟨hi.1,hi.2,ops[i],Bh hi.1,fun e he hb => ?_⟩;have dC:la[i]? = some (la[i]'(by omega)):=Aa _;obtain⟨o,ho,hc⟩:=l2 i _ dC;have gV:o=ops[i]:=by simpa[hi.1] using ho.symm
      subst gV;have km:=zjd hc;have hj:e.on∈(la[i]'(by omega)).aft:=(by rw[km];exact Al.2 ⟨e,BH.2 ⟨by simpa using he,hb⟩,rfl⟩);have aj:=fF i e.on _ dC hj;refine (notin e.on (by omega) fun hm => ?_).2;rcases Ar.1 hm with hm|hm
      ·omega
      ·have mw:e.on<la.length:=by omega
       exact ((CZ gQ hm).2 _ _ dC (Aa mw)).1 hj
     rw[cU] at nK;cases nK
   ·obtain⟨h1,h2,o,ho,km⟩:=mem_ready.1 hi;have hiR:i∈R:=(aP i).2 ⟨h1,h2⟩;obtain⟨R1,R2,rfl⟩:=List.append_of_mem hiR;have dC:la[i]? = some (la[i]'(by omega)):=Aa _;obtain⟨o',gV,hc⟩:=l2 i _ dC;have:o'=o:=by simpa[ho] using gV.symm
    subst this;have ub:∀j∈(la[i]'(by omega)).aft,j<la.length∧j∉R1++i::R2:=by
     intro j hj;rw[zjd hc] at hj;obtain⟨e,he,rfl⟩:=Al.1 hj;obtain⟨eC,eB⟩:=BH.1 he;have hl:=km e (by simpa using eC) eB;have aj:e.on<listed.size:=by
      refine Nat.lt_of_not_le fun tS => ?_;have pV:¬e.on<listed.size:=by omega
      simp[Array.getD,pV] at hl
     refine⟨by omega,fun hm => ?_⟩;have:=((aP _).1 hm).2;simp only[Array.getD,aj,dif_pos] at this hl;rw[this] at hl;cases hl
    have eZ:=BD.1 gQ;have iM:∀k∈R1,zei (la.getD k dOp) (la.getD i dOp)=true:=by
     intro k pI;have mm:=eZ.2.2 k pI i Ak;have hI:k<la.length:=(by have:=((aP k).1 (Aj.2 (.inl pI))).1;omega);have e1:la.getD k dOp=la[k]:=by simp[List.getD,hI]
     have e2:la.getD i dOp=la[i]'(by omega):=by simp[List.getD,nu,h1]
     rw[e1,e2];rcases (mm.2 _ _ (Aa hI) dC).2 with hb|hb
     ·have:=zhv aT (L:=fun i'=>i'<la.length∧i'∉R1++i::R2) kk fF (i+1) i k _ (by omega) dC ub hb;exact absurd (Aj.2 (.inl pI)) this.2
     ·exact hb
    rw[Bc,Aw] at hr;obtain⟨s1,q1,q2⟩:=front (R1.map fun i=>la.getD i dOp) (fun k hk=>by
     obtain⟨k',aA,rfl⟩:=Al.1 hk;exact iM k' aA) hr
    have e2:la.getD i dOp=la[i]'(by omega):=by simp[List.getD,nu,h1]
    rw[e2] at q1;refine zfW hS h hn ho hc q1.loud fun w' A' σ' cB k1 k2 => ?_;have mb:i∉R1∧i∉R2:=by
     refine⟨fun hm => ?_,fun hm => ?_⟩
     ·exact (eZ.2.2 i hm i Ak).1 rfl
     ·exact (CZ eZ.2.1 hm).1 rfl
    refine ih (R1++R2) _ s1 A' σ' w' cB (by simp at hlen ⊢;omega) (by simpa using aF) ?_ ?_ ?_ (by rw[Bc];exact q2) k1 k2
    ·exact BD.2 ⟨eZ.1,(Br.1 eZ.2.1).2,fun a ha b hb=>eZ.2.2 a ha b (Ad _ hb)⟩
    ·intro j;rw[zmo (by omega)];have:=aP j;simp only[Aj,Ar] at this ⊢;by_cases pJ:j=i
     ·subst pJ;simp[mb.1,mb.2]
     ·rw[if_neg pJ,←this];simp[pJ]
    ·intro i' j o2 hL iU hj;by_cases nN:i'=i
     ·subst nN;rw[dC] at iU;cases iU;have:=ub j hj;refine⟨this.1,fun hm=>this.2 ?_⟩;simp only[Aj,Ar] at hm ⊢;exact hm.imp (fun h=>h) .inr
     ·have:=kk i' j o2 ⟨hL.1,fun hm=>hL.2 ?_⟩ iU hj
      ·refine⟨this.1,fun hm=>this.2 ?_⟩;simp only[Aj,Ar] at hm ⊢;exact hm.imp (fun h=>h) .inr
      ·simp only[Aj,Ar] at hm ⊢;exact hm.imp (fun h=>h) fun h=>h.resolve_left nN
 have mj:∀(R:List Nat) (n:Nat),R.Nodup->(∀i,i∈R↔i<n)->R.length=n:=(by intro R n hnd hR;have h1:R.length<=n:=(by have:=nodup_le n R hnd fun x hx=>(hR x).1 hx;exact this);have h2:n<=R.length:=(by have:=zeo (List.range n) R Dc fun x hx=>(hR x).2 (AR.1 hx);simpa using this);omega);refine key ops.size (zkg la) _ st A σ _ tm (mj _ _ (gI.imp fun {a b} h=>h.1) fun i=>by rw[fE,nu]) (by simp) gI ?_ ?_ hr (let ⟨w1,r1,j1,h1⟩:=h;⟨w1,r1,j1,h1.drew⟩) hn
 ·intro i;rw[fE,nu];refine⟨fun hi=>⟨hi,by simp[Array.getD,hi]⟩,fun hi=>hi.1⟩
 ·intro i j o hi;exact absurd ((fE i).2 hi.1) hi.2
end
section
open Go Go.RowKit
def law_calls {S:Seat} {g id:Nat} (hg:ql g S.fns=some id) {args:List AV} (h:(zb S).ret id args (.v (.bool true)) []) {A:Nat->Prop} {w:World} {vs:Array Value} (hl:vs.size=args.length) (hA:(∀b,A b->b<w.heap.size)∧Inv S w)
  (ha:∀(i:Nat) (x:AV),args[i]? = some x->VR0 S A w x (vs.getD i undef)) (h1:∀b,¬S.jg b:=by exact fun _ h=>h) (h2:∀w,S.jn w:=by exact fun _=>trivial):Calls S.P g vs w fun e w'=>e=.returned (.bool true)∧Below w.heap.size w w':=by
 have cq:∀x∈args,zG x=false:=fun x hx=>(by obtain⟨i,hi⟩:=AA.1 hx;have:=ha i x hi;generalize vs.getD i undef=v at this;cases this<;>rfl);refine ((h g hg).old cq A w vs hl hA (.none h1 h2 _ _ _) ha).mono fun e w' ⟨v,he,hk,_,hr⟩ => ?_;obtain⟨β,_,_,_,hv⟩:=hr;have:v=.bool true:=(VR.of0 (σ:=fun _=>none) hv).v_inv;subst this;exact⟨he,⟨hk.os,hk.tape,hk.output,hk.size,fun k aA=>hk.block k aA (h1 k)⟩⟩
end
end Ab
