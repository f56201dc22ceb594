import Derived.Test.YtkaifdgeigdbhaaGreatDoorB1
open List (all_cons all_eq_true any_map append_assoc cons_append eq_nil_iff_forall_not_mem flatMap_eq_nil_iff foldl_cons getElem?_map isEmpty_iff isEmpty_nil length_cons length_map map_append map_congr_left map_cons map_id' map_map map_nil map_replicate map_set mem_append mem_cons mem_cons_of_mem mem_cons_self mem_map mem_of_getElem? mem_singleton nil_append)
open Nat (beq_refl)
open Option (map_some)
open Bool (and_eq_true and_eq_true_iff false_eq_true not_eq_true')
set_option linter.unusedVariables false
set_option linter.unusedSimpArgs false
set_option linter.unnecessarySimpa false
namespace Ab
section
open Go Go.RowKit
section
variable {S:Seat} {q:Bool} {α:Type} {C:List CSpec} {ty:Ty} {d:Nat} {s:TSt} {k:TV->THp->Option α} {r:α}
theorem Av_i (h:THp) (n:Int):Av h (.i n)=.v (.int .i64 n):=rfl
theorem Av_u (h:THp) (n:Int):Av h (.u n)=.v (.int .u8 n):=rfl
theorem Av_b (h:THp) (n:Bool):Av h (.b n)=.v (.bool n):=rfl
theorem Av_sl (h:THp) (t:Ty) (xs:List t.den):Av h (.sl t xs)=.sl t.z (xs.map t.cells):=rfl
theorem Av_ep (h:THp) (t:Ty) (x:t.den) (off:Nat):Av h (.ep t x off)=.ep (t.cells x) off:=rfl
theorem top_chk {x:AOpd} (h:top C q ty (.chk x) d s k=some r):∃ v hs,k v hs=some r∧zW S q (.chk x) d s v hs:=by
 simp only[top] at h;split at h
 ·rename_i r' off hx;obtain ⟨e1,e2⟩:=jW hx;exact ⟨_,_,h,.val rfl (by simp only[aop,e1,av_pv,jU e2])⟩
 ·rename_i r' v i off hx;obtain ⟨e1,e2⟩:=jW hx;obtain ⟨t,xs,hl⟩:=ziF (q9 rfl e2);exact ⟨_,_,h,.val rfl (by simp only[aop,e1,zhr hl,jU e2])⟩
 ·rename_i t y off hx;obtain ⟨e1,e2⟩:=jW hx;exact ⟨_,_,h,.val rfl (by simp only[aop,e1,av_ep,jU e2])⟩
 ·rename_i f caps hx;obtain ⟨e1,e2⟩:=jW hx;exact ⟨_,_,h,.val rfl (by rw[jU e2];simp only[aop,e1];rfl)⟩
 ·cases h
theorem binT_ok {kd:Sc} {op:BinOp} {x y:TV} (h:binT kd op x y (fun v=>k v [])=some r) (hp:THp):∃ v a b c,k v []=some r∧av hp x=.v a∧av hp y=.v b∧zfe kd op a b=some c∧Av hp v=.v c:=by
 unfold binT at h;split at h
 ·split at h
  ·exact ⟨_,_,_,_,h,rfl,rfl,rfl,rfl⟩
  ·exact ⟨_,_,_,_,h,rfl,rfl,rfl,rfl⟩
  ·exact ⟨_,_,_,_,h,rfl,rfl,rfl,rfl⟩
  ·obtain ⟨h1,h⟩:=qy h;exact ⟨_,_,_,_,h,rfl,rfl,by simp only[zfe,if_true];rw[if_neg (of_decide_eq_true h1)];(try rfl),rfl⟩
  ·obtain ⟨h1,h⟩:=qy h;exact ⟨_,_,_,_,h,rfl,rfl,by simp only[zfe,if_true];rw[if_neg (of_decide_eq_true h1)];(try rfl),rfl⟩
  all_goals first | exact ⟨_,_,_,_,h,rfl,rfl,rfl,rfl⟩ | cases h
 ·split at h
  all_goals first | exact ⟨_,_,_,_,h,rfl,rfl,rfl,rfl⟩ | cases h
 ·split at h
  ·split at h
   ·rename_i hb;exact ⟨_,_,_,_,h,rfl,rfl,by simp only[zfe,if_true];rw[if_pos (of_decide_eq_true hb)],rfl⟩
   ·cases h
  ·cases h
 ·split at h
  ·obtain ⟨h1,h⟩:=qy h;exact ⟨_,_,_,_,h,rfl,rfl,by simp only[zfe];rw[if_pos (of_decide_eq_true h1)],rfl⟩
  all_goals first | exact ⟨_,_,_,_,h,rfl,rfl,rfl,rfl⟩ | cases h
 ·split at h
  all_goals first | exact ⟨_,_,_,_,h,rfl,rfl,rfl,rfl⟩ | cases h
 ·cases h
theorem top_bin {kd:Sc} {op:BinOp} {x y:AOpd} (h:top C q ty (.bin kd op x y) d s k=some r):∃ v hs,k v hs=some r∧zW S q (.bin kd op x y) d s v hs:=by simp only[top] at h;obtain ⟨v,a,b,c,h1,h2,h3,h4,h5⟩:=binT_ok h s.hp;exact ⟨_,_,h1,.val rfl (by simp only[aop,zI,h2,h3,h4,h5])⟩
theorem eqT_ok {h:THp} {cs ds:List TV}:∀ {sh:List (Nat×Sc)} {b:Bool},eqT cs ds sh=some b->zg9 (cs.map (av1 h)) (ds.map (av1 h)) sh=some b
 | [],b,he=>he
 | (off,sc) :: l,b,he=>by
  simp only[eqT] at he;split at he
  ·rename_i x y hx hy;split at he
   ·rename_i a b' ha hb;cases he;have h1:=eqT_ok (h:=h) hb;simp only[zg9,getElem?_map,hx,hy,map_some,h1];have:zjh sc (av1 h x) (av1 h y)=some a:=by
     unfold eq1 at ha;split at ha
     ·cases ha;simp[av1,zjh,aI]
     ·cases ha;simp[av1,zjh,aB]
     ·cases ha;simp[av1,zjh,aS]
     ·cases ha
    rw[this]
   ·cases he
  ·cases he
theorem top_eqa {neg:Bool} {sh:List (Nat×Sc)} {x y:AOpd} (h:top C q ty (.eqa neg sh x y) d s k=some r):∃ v hs,k v hs=some r∧zW S q (.eqa neg sh x y) d s v hs:=by
 simp only[top] at h;split at h
 ·rename_i cs ds hx hy;split at h
  ·rename_i b hb;have h1:=eqT_ok (h:=s.hp) hb;refine ⟨_,_,h,.val rfl ?_⟩;simp only[aop,zI,hx,hy,av,av2,h1];cases neg<;>rfl
  ·cases h
 ·cases h
theorem top_eqn {sl neg:Bool} {x:AOpd} (h:top C q ty (.eqn sl neg x) d s k=some r):∃ v hs,k v hs=some r∧zW S q (.eqn sl neg x) d s v hs:=by
 simp only[top] at h;split at h
 ·rename_i hx;exact ⟨_,_,h,.val rfl (by simp only[aop,zI,hx,if_true,av_nl];rfl)⟩
 ·rename_i t xs hx;obtain ⟨h1,h⟩:=qy h;refine ⟨_,_,h,.val rfl ?_⟩;simp only[aop,zI,hx,if_true,av_sl];cases xs with
  | nil=>simp at h1
  | cons y ys=>simp only[map_cons];rfl
 ·rename_i t y hx;obtain ⟨h1,h⟩:=qy h;refine ⟨_,_,h,.val rfl ?_⟩;simp only[aop,zI,hx,if_true];cases y with
  | none=>cases neg<;>rfl
  | some ys =>
   cases ys with
   | nil=>simp at h1
   | cons z zs=>cases neg<;>rfl
 ·rename_i y hx;refine ⟨_,_,h,.val rfl ?_⟩;simp only[aop,zI,hx,false_eq_true,if_false];cases y<;>cases neg<;>rfl
 ·cases h
theorem top_un {op:UnOp} {x:AOpd} (h:top C q ty (.un op x) d s k=some r):∃ v hs,k v hs=some r∧zW S q (.un op x) d s v hs:=by
 simp only[top] at h;split at h
 ·rename_i n hx;exact ⟨_,_,h,.val rfl (by simp only[aop,zI,hx,av_i];rfl)⟩
 ·rename_i b hx;exact ⟨_,_,h,.val rfl (by simp only[aop,zI,hx,av_b];rfl)⟩
 ·cases h
theorem top_cvi {kd:IntKind} {x:AOpd} (h:top C q ty (.cvi kd x) d s k=some r):∃ v hs,k v hs=some r∧zW S q (.cvi kd x) d s v hs:=by
 simp only[top] at h;split at h
 ·rename_i n hx;exact ⟨_,_,h,.val rfl (by simp only[aop,zI,hx,av_i];rfl)⟩
 ·rename_i n hx;exact ⟨_,_,h,.val rfl (by simp only[aop,zI,hx,av_u];rfl)⟩
 ·rename_i n hx;exact ⟨_,_,h,.val rfl (by simp only[aop,zI,hx,av_i];rfl)⟩
 ·rename_i n hx;exact ⟨_,_,h,.val rfl (by simp only[aop,zI,hx,av_u];rfl)⟩
 ·rename_i n hx;exact ⟨_,_,h,.val rfl (by simp only[aop,zI,hx,av_i];rfl)⟩
 ·rename_i n hx;exact ⟨_,_,h,.val rfl (by simp only[aop,zI,hx];rfl)⟩
 ·cases h
theorem top_cvs {x:AOpd} (h:top C q ty (.cvs x) d s k=some r):∃ v hs,k v hs=some r∧zW S q (.cvs x) d s v hs:=by
 simp only[top] at h;split at h
 ·rename_i b hx;exact ⟨_,_,h,.val rfl (by simp only[aop,zI,hx,av_s];rfl)⟩
 ·cases h
theorem top_ifc {t:Nat} {x:AOpd} (h:top C q ty (.ifc t x) d s k=some r):∃ v hs,k v hs=some r∧zW S q (.ifc t x) d s v hs:=by
 simp only[top] at h;split at h
 ·rename_i n hb hx;rw[zH] at hb;subst hb;exact ⟨_,_,h,.val rfl (by simp only[aop,zI,hx,av_i];rfl)⟩
 ·cases h
 ·split at h
  ·cases h
  ·exact ⟨_,_,h,.wk (a:=.ifc t (s.toA.ev x)) rfl rfl (by simp only[aop]) (.ifc t _)⟩
 ·cases h
theorem lv2_of_lv {h:THp} {x:TV} (hl:lv h x=x) (hx:nofn x=true):lv2 h x=x∧zG h x=true:=by
 have:lv2 h x=x:=by cases x<;>first | exact hl | simp[nofn] at hx
 exact ⟨this,by rw[← this];exact j9 h x⟩
theorem top_mkfn {f:Nat} {caps:List AOpd} (h:top C q ty (.mkfn f caps) d s k=some r):∃ v hs,k v hs=some r∧zW S q (.mkfn f caps) d s v hs:=by
 simp only[top] at h;split at h
 ·rename_i hb;have hb:=all_eq_true.1 hb;refine ⟨_,_,h,.val rfl ?_⟩;have h1:∀ x∈caps.map s.ev,lv2 s.hp x=x∧zG s.hp x=true:=fun x hx=>(by obtain ⟨y,hy,rfl⟩:=mem_map.1 hx;exact lv2_of_lv (yZ s y) (hb _ hx));rw[zaQ,if_pos (all_eq_true.2 fun x hx=>(h1 x hx).2)];simp only[aop,map_map];congr 3;refine map_congr_left fun y hy => ?_;have:=h1 (s.ev y) (mem_map.2 ⟨y,hy,rfl⟩);have hb':=hb _ (mem_map.2 ⟨y,hy,rfl⟩);simp only[Function.comp,zI,A2,this.1];cases hx:s.ev y<;>first | rfl | (rw[hx] at hb';simp[nofn] at hb')
 ·cases h
theorem zcW {α:Type} {r:α} {n:Nat} {lo hi:Option AOpd} {f:Int->Int->Option α} (h:bndT s n lo hi f=some r):∃ l u,bounds s.toA n lo hi=some (l.toNat,u.toNat)∧f l u=some r:=by
 unfold bndT at h;split at h
 ·rename_i u l hu hl;obtain ⟨h1,h⟩:=qy h;refine ⟨l,u, ?_,h⟩;have e1:(match (generalizing:=false) hi with | none=>some (n:Int) | some x=>zch (s.toA.ev x))=some u:=by
   cases hi with
   | none=>exact hu
   | some x=>have:=zT hu;simp only[zI,this];rfl
  have e2:(match (generalizing:=false) lo with | none=>some (0:Int) | some x=>zch (s.toA.ev x))=some l:=by
   cases lo with
   | none=>exact hl
   | some x=>have:=zT hl;simp only[zI,this];rfl
  have key:∀ (a b:Option Int),a=some u->b=some l->(match a,b with | some h,some l=>if 0<=l∧l<=h∧h<=n then some (l.toNat,h.toNat) else none | _,_=>none)=some (l.toNat,u.toNat):=(by intro a b ha hb;subst ha;subst hb;simp only;rw[if_pos (of_decide_eq_true h1)])
  exact key _ _ e1 e2
 ·cases h
theorem z_ne (z:Nat):¬ (z+1=0):=by omega
theorem top_slc {z:Nat} {x:AOpd} {lo hi:Option AOpd} (h:top C q ty (.slc z x lo hi) d s k=some r):∃ v hs,k v hs=some r∧zW S q (.slc z x lo hi) d s v hs:=by
 simp only[top] at h;split at h
 ·rename_i b hx;obtain ⟨l,u,hb,h⟩:=zcW h;exact ⟨_,_,h,.val rfl (by simp only[aop,zI,hx,if_true,av_s,hb];rfl)⟩
 ·rename_i z hx;obtain ⟨l,u,hb,h⟩:=zcW h;exact ⟨_,_,h,.val rfl (by simp only[aop,zI,hx,if_neg (z_ne _),av_nl,hb];rfl)⟩
 ·rename_i z t xs hx;split at h
  ·rename_i hz;rw[zH] at hz;obtain ⟨l,u,hb,h⟩:=zcW h;refine ⟨_,_,h,.val rfl ?_⟩;simp only[aop,zI,hx,if_neg (z_ne _),av_sl,length_map];rw[if_pos hz];simp only[hb,Nat.succ_eq_add_one,hz,Av_sl,List.map_take,List.map_drop]
  ·cases h
 ·rename_i z r' v hx;obtain ⟨e1,e2⟩:=jW hx;split at h
  ·rename_i v' t xs hl;split at h
   ·rename_i hz;rw[zH] at hz;obtain ⟨l,u,hb,h⟩:=zcW h;obtain ⟨t',xs',hl'⟩:=zbs (q9 rfl e2);have hv:v'=v:=by rw[hl] at hl';injection hl'
    subst hv;refine ⟨_,_,h,.val rfl ?_⟩;have e3:lv s.hp (.ls r' v' l.toNat (u.toNat - l.toNat))=.ls r' v' l.toNat (u.toNat - l.toNat):=by simp only[lv,lv2,lv1,hl,beq_refl]
    rw[jU e3,av_ls hl];simp only[aop,e1,zcZ hl,if_neg (z_ne _)];rw[if_pos hz];simp only[hb,Nat.succ_eq_add_one,hz,Nat.zero_add]
   ·cases h
  ·cases h
 ·rename_i z r' v off len hx;obtain ⟨e1,e2⟩:=jW hx;split at h
  ·rename_i v' t xs hl;split at h
   ·rename_i hz;rw[zH] at hz;obtain ⟨l,u,hb,h⟩:=zcW h;obtain ⟨t',xs',hl'⟩:=sl_ls (q9 rfl e2);have hv:v'=v:=by rw[hl] at hl';injection hl'
    subst hv;refine ⟨_,_,h,.val rfl ?_⟩;have e3:lv s.hp (.ls r' v' (off+l.toNat) (u.toNat - l.toNat))=.ls r' v' (off+l.toNat) (u.toNat - l.toNat):=by simp only[lv,lv2,lv1,hl,beq_refl]
    rw[jU e3,av_ls hl];simp only[aop,e1,av_ls hl,if_neg (z_ne _)];rw[if_pos hz];simp only[hb,Nat.succ_eq_add_one,hz]
   ·cases h
  ·cases h
 ·cases h
theorem top_fa {off:Nat} {x:AOpd} (h:top C q ty (.fa off x) d s k=some r):∃ v hs,k v hs=some r∧zW S q (.fa off x) d s v hs:=by
 simp only[top] at h;split at h
 ·rename_i r' o hx;obtain ⟨e1,e2⟩:=jW hx;obtain ⟨cs,hl⟩:=sl_var (q9 rfl e2);have e3:lv s.hp (.pv r' (o+off))=.pv r' (o+off):=by simp only[lv,lv2,lv1,hl]
  exact ⟨_,_,h,.val rfl (by simp only[aop,e1,av_pv,jU e3])⟩
 ·rename_i r' v i o hx;obtain ⟨e1,e2⟩:=jW hx;obtain ⟨t,xs,hl⟩:=ziF (q9 rfl e2);have e3:lv s.hp (.pe r' v i (o+off))=.pe r' v i (o+off):=by simp only[lv,lv2,lv1,hl,beq_refl]
  exact ⟨_,_,h,.val rfl (by simp only[aop,e1,zhr hl,jU e3])⟩
 ·rename_i t y o hx;exact ⟨_,_,h,.val rfl (by simp only[aop,zI,hx,av_ep,Av_ep])⟩
 ·cases h
theorem top_fld {off:Nat} {n:Option Nat} {x:AOpd} (h:top C q ty (.fld off n x) d s k=some r):∃ v hs,k v hs=some r∧zW S q (.fld off n x) d s v hs:=by
 simp only[top] at h;split at h
 ·rename_i cs hx;obtain ⟨e1,e2⟩:=jW hx;split at h
  ·rename_i v hv;obtain ⟨p1,p2⟩:=yH (lv_ag e2) hv;refine ⟨_,_,h,.val rfl ?_⟩;simp only[aop,e1];rw[show av s.hp (.ag cs)=.agg (cs.map (av1 s.hp)) from rfl];simp only[p1,jU p2]
  ·cases h
 ·cases h
theorem zfW {i:AOpd} {n:Int} (h:(match s.ev i with | .i n=>some n | .u n=>some n | _=>none)=some n):∃ kd,s.toA.ev i=.v (.int kd n):=by
 split at h
 ·rename_i m hx;cases h;exact ⟨_,by rw[zI,hx];rfl⟩
 ·rename_i m hx;cases h;exact ⟨_,by rw[zI,hx];rfl⟩
 ·cases h
theorem top_ia {z:Nat} {x i:AOpd} (h:top C q ty (.ia z x i) d s k=some r):∃ v hs,k v hs=some r∧zW S q (.ia z x i) d s v hs:=by
 simp only[top] at h;split at h
 ·rename_i t xs n hx hi;obtain ⟨kd,ei⟩:=zfW hi;split at h
  ·rename_i hz;rw[zH] at hz;obtain ⟨y,hy,h⟩:=yi h;obtain ⟨h1,h2⟩:=za1 hy;refine ⟨_,_,h,.val rfl ?_⟩;simp only[aop,zI s x,hx,av_sl,ei];rw[if_pos ⟨hz,h1⟩];simp only[getElem?_map,h2,map_some,Av_ep]
  ·cases h
 ·rename_i t y0 n hx hi;obtain ⟨kd,ei⟩:=zfW hi;split at h
  ·rename_i hz;rw[zH] at hz;obtain ⟨y,hy,h9⟩:=yi h;clear h;obtain ⟨h1,h2⟩:=za1 hy;cases y0 with
   | none=>simp at h2
   | some xs =>refine ⟨_,_,h9,.val rfl ?_⟩;rw[Option.getD_some] at h2;have e0:av s.hp (.ns t (some xs))=.sl t.z (xs.map t.cells):=rfl;simp only[aop,zI s x,hx,e0,ei];rw[if_pos ⟨hz,h1⟩];simp only[getElem?_map,h2,map_some,Av_ep]
  ·cases h
 ·rename_i r' v n hx hi;obtain ⟨kd,ei⟩:=zfW hi;obtain ⟨e1,e2⟩:=jW hx;split at h
  ·rename_i v' t xs hl;split at h
   ·rename_i hz;rw[zH] at hz;obtain ⟨h1,h⟩:=qy h;have h1:=of_decide_eq_true h1;obtain ⟨t',xs',hl'⟩:=zbs (q9 rfl e2);have hv:v'=v:=by rw[hl] at hl';injection hl'
    subst hv;refine ⟨_,_,h,.val rfl ?_⟩;have e3:lv s.hp (.pe r' v' n.toNat 0)=.pe r' v' n.toNat 0:=by simp only[lv,lv2,lv1,hl,beq_refl]
    rw[jU e3,zhr hl];simp only[aop,e1,zcZ hl,ei];rw[if_pos ⟨hz,h1.1,h1.2⟩];simp only[hz,Nat.zero_add]
   ·cases h
  ·cases h
 ·rename_i r' v off len n hx hi;obtain ⟨kd,ei⟩:=zfW hi;obtain ⟨e1,e2⟩:=jW hx;split at h
  ·rename_i v' t xs hl;split at h
   ·rename_i hz;rw[zH] at hz;obtain ⟨h1,h⟩:=qy h;have h1:=of_decide_eq_true h1;obtain ⟨t',xs',hl'⟩:=sl_ls (q9 rfl e2);have hv:v'=v:=by rw[hl] at hl';injection hl'
    subst hv;refine ⟨_,_,h,.val rfl ?_⟩;have e3:lv s.hp (.pe r' v' (off+n.toNat) 0)=.pe r' v' (off+n.toNat) 0:=by simp only[lv,lv2,lv1,hl,beq_refl]
    rw[jU e3,zhr hl];simp only[aop,e1,av_ls hl,ei];rw[if_pos ⟨hz,h1.1,h1.2⟩];simp only[hz]
   ·cases h
  ·cases h
 ·cases h
theorem top_ix {x i:AOpd} (h:top C q ty (.ix x i) d s k=some r):∃ v hs,k v hs=some r∧zW S q (.ix x i) d s v hs:=by
 simp only[top] at h;split at h
 ·rename_i b n hx hi;obtain ⟨kd,ei⟩:=zfW hi;obtain ⟨y,hy,h⟩:=yi h;obtain ⟨h1,h2⟩:=za1 hy;refine ⟨_,_,h,.val rfl ?_⟩;simp only[aop,zI s x,hx,av_s,ei];rw[if_pos h1];rw[Array.getElem?_toList] at h2;simp only[h2,Av_u]
 ·cases h
theorem top_ext {i:Nat} {x:AOpd} (h:top C q ty (.ext x i) d s k=some r):∃ v hs,k v hs=some r∧zW S q (.ext x i) d s v hs:=by
 simp only[top] at h;split at h
 ·rename_i vs hx;obtain ⟨e1,e2⟩:=jW hx;split at h
  ·rename_i v hv;have h1:=lv_tp e2 v (mem_of_getElem? hv);refine ⟨_,_,h,.val rfl ?_⟩;simp only[aop,e1];rw[show av s.hp (.tp vs)=.tup (vs.map (av2 s.hp)) from rfl];simp only[getElem?_map,hv,map_some,jU (zdO h1)];congr 2;cases v<;>first | rfl | simp[lv2,lv1] at h1
  ·cases h
 ·cases h
theorem top_len {str:Bool} {x:AOpd} (h:top C q ty (.len str x) d s k=some r):∃ v hs,k v hs=some r∧zW S q (.len str x) d s v hs:=by
 simp only[top] at h;split at h
 ·rename_i b hx;exact ⟨_,_,h,.val rfl (by simp only[aop,zI,hx,if_true,av_s,Av_i])⟩
 ·rename_i hx;exact ⟨_,_,h,.val rfl (by simp only[aop,zI,hx,false_eq_true,if_false,av_nl,Av_i])⟩
 ·rename_i t xs hx;exact ⟨_,_,h,.val rfl (by simp only[aop,zI,hx,false_eq_true,if_false,av_sl,Av_i,length_map])⟩
 ·rename_i t y hx;cases y with
  | none=>exact ⟨_,_,h,.val rfl (by
    have e0:av s.hp (.ns t none)=aN:=rfl;simp only[aop,zI,hx,false_eq_true,if_false,e0,aN,Av_i];rfl)⟩
  | some xs=>exact ⟨_,_,h,.val rfl (by
    have e0:av s.hp (.ns t (some xs))=.sl t.z (xs.map t.cells):=rfl;simp only[aop,zI,hx,false_eq_true,if_false,e0,Av_i,length_map,Option.getD_some])⟩
 ·rename_i r' v hx;split at h
  ·rename_i v' t xs hl;exact ⟨_,_,h,.val rfl (by simp only[aop,zI,hx,false_eq_true,if_false,zcZ hl,Av_i])⟩
  ·cases h
 ·rename_i r' v off n hx;split at h
  ·rename_i v' t xs hl;exact ⟨_,_,h,.val rfl (by simp only[aop,zI,hx,false_eq_true,if_false,av_ls hl,Av_i])⟩
  ·cases h
 ·cases h
theorem top_pick {c a b:AOpd} (h:top C q ty (.pick c a b) d s k=some r):∃ v hs,k v hs=some r∧zW S q (.pick c a b) d s v hs:=by
 simp only[top] at h;split at h
 ·rename_i x hx;cases x with
  | true=>exact ⟨_,_,h,.val rfl (by simp only[aop,zI s c,hx,av_b,if_true,ev_Av])⟩
  | false=>exact ⟨_,_,h,.val rfl (by simp only[aop,zI s c,hx,av_b,false_eq_true,if_false,ev_Av])⟩
 ·cases h
theorem top_max2 {x y:AOpd} (h:top C q ty (.max2 x y) d s k=some r):∃ v hs,k v hs=some r∧zW S q (.max2 x y) d s v hs:=by
 simp only[top] at h;split at h
 ·rename_i a b hx hy;exact ⟨_,_,h,.val rfl (by simp only[aop,zI,hx,hy,av_i,Av_i];rfl)⟩
 ·cases h
theorem zgz {zero:List Value} {z0:ty.den} (hu:ziz ty (zero.map cst)=some z0) (he:exq q (zero.map cst)=true):(zero.map AV.v=ty.cells z0∨q=false)∧PN (zero.map AV.v) (ty.cells z0):=by
 have h1:=yD hu [];have e:(zero.map cst).map (av1 [])=zero.map AV.v:=by rw[map_map];exact map_congr_left fun x _=>zhf _ x
 exact ⟨(all_ex he).symm.imp (fun h=>by rw[← h1.ex h,e]) id,by have:=h1.pn;rwa [e] at this⟩
theorem EWk.of_pn {es:List (List AV)} {fs:List (List AV)} (hl:es.length=fs.length) (h:∀ (i:Nat) (e f:List AV),es[i]? = some e->fs[i]? = some f->PN e f):EWk es fs :=
 ⟨hl,fun i e f he hf=>⟨(h i e f he hf).1,fun c x y hx hy=>((h i e f he hf).2 c x y hx hy).wk⟩⟩
theorem zgw {n d':Nat} {t:Ty} {xs:List t.den}:Av ((d',.row n t xs) :: s.hp) (.lw d' n)=.lsl d' t.z 0 xs.length:=by
 have e:look d' .gone ((d',TB.row n t xs) :: s.hp)=.row n t xs:=by rw[zj,if_pos rfl]
 have e3:lv ((d',TB.row n t xs) :: s.hp) (.lw d' n)=.lw d' n:=by simp only[lv,lv2,lv1,e,beq_refl]
 rw[jU e3,zcZ e]
theorem top_mksl {z:Nat} {zero:List Value} {len cap:AOpd} (h:top C q ty (.mksl z zero len cap) d s k=some r):∃ v hs,k v hs=some r∧zW S q (.mksl z zero len cap) d s v hs:=by
 simp only[top] at h;split at h
 ·rename_i z0 n c hf hz hu hn hc;obtain ⟨hz,he⟩:=and_eq_true_iff.1 hz;rw[zH] at hz;obtain ⟨h1,h⟩:=qy h;have h1:=of_decide_eq_true h1;obtain ⟨f0,f1⟩:=wK hf;obtain ⟨z1,z2⟩:=zgz hu he;refine ⟨_,_,h,.row (a:=.lsl d ty.z 0 n.toNat) (es:=List.replicate n.toNat (zero.map AV.v)) rfl (.newR f0) (fun _=>by rw[qx (zbe d s.ctr ty .int _ [])];exact f1) ?_ (by rw[zgw,List.length_replicate]) ?_⟩
  ·simp only[aop,z8,f0,blk,zI,hn,hc,av_i];rw[if_pos h1,hz]
  ·rw[map_replicate];rcases z1 with z1 | z1
   ·left;rw[z1]
   ·right;refine ⟨z1,.of_pn (by simp) fun i e f hi hf => ?_⟩;obtain rfl:=List.eq_of_mem_replicate (mem_of_getElem? hi);obtain rfl:=List.eq_of_mem_replicate (mem_of_getElem? hf);exact z2
 ·cases h
theorem foldl_set (ps:List (Nat×List TV×ty.den)):∀ {es:List (List AV)} {xs:List ty.den},(∀ p∈ps,UnOk s.hp ty p.2.1 p.2.2)->EWk es (xs.map ty.cells) ->
  EWk ((ps.map fun p=>(p.1,p.2.1.map (av1 s.hp))).foldl (fun es p=>es.set p.1 p.2) es) (((ps.map fun p=>(p.1,p.2.2)).foldl (fun es p=>es.set p.1 p.2) xs).map ty.cells):=by
 induction ps with
 | nil=>intro es xs _ h;exact h
 | cons p ps ih =>
  intro es xs hp h;simp only[map_cons,foldl_cons];refine ih (fun p hp'=>hp p (mem_cons_of_mem _ hp')) ?_;have hu:=hp p mem_cons_self;refine ⟨by simpa using h.1,fun j e f he hf => ?_⟩;rw[map_set] at hf;by_cases hj:p.1=j
  ·subst hj;simp only[List.getElem?_set,if_true] at he hf;split at he
   ·split at hf
    ·cases he;cases hf;exact ⟨hu.pn.1,fun c x y hx hy=>(hu.pn.2 c x y hx hy).wk⟩
    ·cases hf
   ·cases he
  ·simp only[List.getElem?_set,if_neg hj] at he hf;exact h.2 j e f he hf
theorem yd (ps:List (Nat×List TV×ty.den)):∀ {xs:List ty.den},(∀ p∈ps,p.2.1.map (av1 s.hp)=ty.cells p.2.2) ->
  (ps.map fun p=>(p.1,p.2.1.map (av1 s.hp))).foldl (fun es p=>es.set p.1 p.2) (xs.map ty.cells)=((ps.map fun p=>(p.1,p.2.2)).foldl (fun es p=>es.set p.1 p.2) xs).map ty.cells:=by
 induction ps with
 | nil=>intro xs _;rfl
 | cons p ps ih =>intro xs hp;simp only[map_cons,foldl_cons];rw[hp p mem_cons_self,← map_set];exact ih fun p hp'=>hp p (mem_cons_of_mem _ hp')
theorem foldl_len {β:Type} (ps:List (Nat×β)):∀ (es:List β),(ps.foldl (fun es p=>es.set p.1 p.2) es).length=es.length:=by
 induction ps with
 | nil=>intro es;rfl
 | cons p ps ih=>intro es;simp only[foldl_cons];rw[ih];simp
theorem zee {h:THp} {x:TV} (hl:lv h x=x) (hr:rf x=[]):(av h x).refs=[]:=by
 have one:∀ y,rf1 y=[]->(av1 h y).refs=[]:=by
  intro y hy;cases y with
  | e x=>cases x<;>simp[av1,Err.av,AV.refs,aI]
  | ns t x=>cases x<;>simp[av1,AV.refs,aN]
  | lw=>simp[rf1] at hy
  | ls=>simp[rf1] at hy
  | pe=>simp[rf1] at hy
  | pv=>simp[rf1] at hy
  | _=>simp[av1,AV.refs,aI,aU,aB,aS,aN,ud]
 have two:∀ y,rf2 y=[]->(av2 h y).refs=[]:=by
  intro y hy;cases y with
  | ag cs =>simp only[av2,AV.refs];refine eq_nil_iff_forall_not_mem.2 fun r0 hr0 => ?_;obtain ⟨_,h1,h2⟩:=ze.1 hr0;obtain ⟨z,hz,rfl⟩:=mem_map.1 h1;rw[one z (flatMap_eq_nil_iff.1 hy z hz)] at h2;cases h2
  | _=>exact one _ (by simpa only[rf2] using hy)
 cases x with
 | tp cs =>simp only[av,AV.refs];refine eq_nil_iff_forall_not_mem.2 fun r0 hr0 => ?_;obtain ⟨_,h1,h2⟩:=ze.1 hr0;obtain ⟨z,hz,rfl⟩:=mem_map.1 h1;rw[two z (flatMap_eq_nil_iff.1 hr z hz)] at h2;cases h2
 | fn f cs =>simp only[av,AV.refs];refine eq_nil_iff_forall_not_mem.2 fun r0 hr0 => ?_;obtain ⟨_,h1,h2⟩:=ze.1 hr0;obtain ⟨z,hz,rfl⟩:=mem_map.1 h1;rw[two z (flatMap_eq_nil_iff.1 hr z hz)] at h2;cases h2
 | ag cs=>exact two (.ag cs) hr
 | _=>exact two _ (by simpa only[rf] using hr)
theorem za0 {α β γ:Type} {f:α->Option (γ×β)} {g:α->γ} (hf:∀ a y,f a=some y->y.1=g a):∀ {l:List α} {ys:List (γ×β)},zb f l=some ys->l.map g=ys.map (·.1)
 | [],ys,h=>by simp only[zb,Option.some.injEq] at h;subst h;rfl
 | a :: l,ys,h=>by
  simp only[zb] at h;split at h
  ·rename_i y zs h1 h2;cases h;simp only[map_cons];rw[hf _ _ h1,za0 hf h2]
  ·cases h
theorem zcx {α:Type}:∀ (qs:List (Nat×α)) (l1 l2:List α),l1.length=l2.length->(∀ i,i < l1.length->i∈qs.map (·.1)∨l1[i]? = l2[i]?)->qs.foldl (fun es p=>es.set p.1 p.2) l1=qs.foldl (fun es p=>es.set p.1 p.2) l2
 | [],l1,l2,hl,h=>by
  show l1=l2;apply List.ext_getElem?;intro i;by_cases hi:i < l1.length
  ·rcases h i hi with h | h
   ·simp at h
   ·exact h
  ·rw[List.getElem?_eq_none (by omega),List.getElem?_eq_none (by omega)]
 | p :: qs,l1,l2,hl,h=>by
  simp only[foldl_cons];refine zcx qs _ _ (by simp[hl]) fun i hi => ?_;simp only[List.length_set] at hi;by_cases e:p.1=i
  ·right;subst e;rw[List.getElem?_set_self hi,List.getElem?_set_self (by omega)]
  ·rcases h i hi with h | h
   ·rw[map_cons,mem_cons] at h;exact .inl (h.resolve_left (Ne.symm e))
   ·right;rw[List.getElem?_set_ne e,List.getElem?_set_ne e,h]
theorem bslT_ok {frz:Bool} {z:Nat} {zero:List Value} {len:Nat} {parts:List (Nat×AOpd)} (hr:(parts.flatMap fun p=>rf (s.ev p.2))=[]) (h:bslT q ty z zero len parts d s k=some r) :
  ∃ v b,k v [(d,b)]=some r∧zW S q (.bslice frz z zero len parts) d s v [(d,b)]:=by
 unfold bslT at h;split at h
 ·rename_i z0 ps hf hz hu hps;obtain ⟨hz,he⟩:=and_eq_true_iff.1 hz;rw[zH] at hz;obtain ⟨f0,f1⟩:=wK hf
  -- the parts,with their cells
  have hex:∀ (l:List (Nat×AOpd)) (ps:List (Nat×ty.den)),zb (fun (p:Nat×AOpd)=>match wx (s.ev p.2) with | some cs=>(match exq q cs,ziz ty cs with | true,some x=>some (p.1,x) | _,_=>none) | none=>none) l=some ps ->
    ∃ qs:List (Nat×List TV×ty.den),ps=qs.map (fun p=>(p.1,p.2.2))∧(∀ p∈qs,UnOk s.hp ty p.2.1 p.2.2∧exq q p.2.1=true) ∧
     zb (fun (p:Nat×AOpd)=>match (s.toA.ev p.2).cells with | some cs=>(match zb (qa s.toA.hp) cs with | some cs=>if cs.length=z then some (p.1,cs) else none | none=>none) | none=>none) l=some (qs.map fun p=>(p.1,p.2.1.map (av1 s.hp))):=by
   intro l
   induction l with
   | nil=>intro ps h;simp only[zb,Option.some.injEq] at h;subst h;exact ⟨[],rfl,by simp,rfl⟩
   | cons p l ih =>
    intro ps h;simp only[zb] at h;split at h
    ·rename_i y ys h1 h2;cases h;obtain ⟨qs,k1,k2,k3⟩:=ih ys h2;split at h1
     ·rename_i cs hc;split at h1
      ·rename_i x hx hun;cases h1;obtain ⟨c1,c2⟩:=ww (yZ s p.2) hc;have hun':=yD hun s.hp;refine ⟨(p.1,cs,x) :: qs,by simp[k1],by simpa using ⟨⟨hun',hx⟩,fun a b c hm=>k2 (a,b,c) hm⟩, ?_⟩;have hs:∀ y∈cs,qb s.hp y=y:=fun y hy=>(by have:=(hun'.flat y hy);cases y<;>first | rfl | simp[zbo,rf1] at this)
       have h3:zb (qa s.toA.hp) (cs.map (av1 s.hp))=some (cs.map (av1 s.hp)):=(by have:=(zaC (h:=s.hp) (cs:=cs) (fun y hy=>(c2 y hy).1) (by rw[map_congr_left hs,map_id'];exact hun'.flat)).1;rw[map_congr_left hs,map_id'] at this;exact this);have hlen:(cs.map (av1 s.hp)).length=z:=by rw[hun'.pn.1,jR,hz]
       have e1:=zI s p.2;simp only[zb,e1,c1,h3,if_pos hlen]
       erw [k3]
       rfl
      ·cases h1
     ·cases h1
    ·cases h
  obtain ⟨qs,rfl,k2,k3⟩:=hex parts ps hps;have hrefs:qL s.toA parts=[]:=(by unfold qL;refine eq_nil_iff_forall_not_mem.2 fun r0 hr0 => ?_;obtain ⟨_,h1,h2⟩:=ze.1 hr0;obtain ⟨p,hp,rfl⟩:=mem_map.1 h1;rw[zI,zee (yZ s p.2) (flatMap_eq_nil_iff.1 hr p hp)] at h2;cases h2);refine ⟨_,_,h,.row (a:=.lsl d ty.z 0 len) (es:=(qs.map fun p=>(p.1,p.2.1.map (av1 s.hp))).foldl (fun es p=>es.set p.1 p.2) (List.replicate len (zero.map AV.v))) rfl (.newR f0) (fun _=>by rw[qx (zbe d s.ctr ty .int _ [])];exact f1) ?_ ?_ ?_⟩
  ·have e0:s.toA.hp d=none:=by rw[z8,f0];rfl
   simp only[aop,e0]
   erw [k3]
   simp only[hrefs,ASt.freezeL,or_true,if_true,hz]
  ·rw[zgw,foldl_len,List.length_replicate]
  ·by_cases hex0:exq q (zero.map cst)=true
   ·obtain ⟨z1,z2⟩:=zgz hu hex0;rcases z1 with z1 | z1
    ·cases hq:q with
     | true =>left;have hx:∀ p∈qs,p.2.1.map (av1 s.hp)=ty.cells p.2.2:=fun p hp=>(by obtain ⟨a,b⟩:=k2 p hp;rw[hq] at b;exact a.ex (by simpa[exq] using b));rw[z1,← map_replicate];exact yd qs hx
     | false =>right;refine ⟨rfl,foldl_set qs (fun p hp=>(k2 p hp).1) ?_⟩;rw[z1,← map_replicate];exact .rfl _
    ·right;refine ⟨z1,foldl_set qs (fun p hp=>(k2 p hp).1) (.of_pn (by simp) fun i e f hi hf => ?_)⟩;rw[map_replicate] at hf;obtain rfl:=List.eq_of_mem_replicate (mem_of_getElem? hi);obtain rfl:=List.eq_of_mem_replicate (mem_of_getElem? hf);exact z2
   ·have hq:q=true:=by
     cases q with
     | true=>rfl
     | false=>exact absurd rfl hex0
    left;have hx:∀ p∈qs,p.2.1.map (av1 s.hp)=ty.cells p.2.2:=fun p hp=>(by obtain ⟨a,b⟩:=k2 p hp;rw[hq] at b;exact a.ex (by simpa[exq] using b));have hcov:covB len (parts.map (·.1))=true:=by simpa[hex0] using he
    have hpos:parts.map (·.1)=(qs.map fun p=>(p.1,p.2.1.map (av1 s.hp))).map (·.1):=za0 (fun p y hy=>by
     split at hy
     ·split at hy
      ·split at hy
       ·cases hy;rfl
       ·cases hy
      ·cases hy
     ·cases hy) k3
    rw[zcx (qs.map fun p=>(p.1,p.2.1.map (av1 s.hp))) (List.replicate len (zero.map AV.v)) (List.replicate len (ty.cells z0)) (by simp) fun i hi => ?_]
    ·rw[← map_replicate];exact yd qs hx
    ·left;rw[← hpos];have:=all_eq_true.1 hcov i (by simpa using hi);obtain ⟨j,hj,e⟩:=List.any_eq_true.1 this;rw[zH] at e;subst e;exact hj
 ·cases h
theorem ziE {h:THp} {y:TV} (hy:zbo y):qa (fun _=>none) (av1 h y)=some (av1 h y):=by
 have e1:av1 h y=av1 [] y:=by
  have h1:=hy.1;cases y with
  | ns t x=>cases x<;>rfl
  | _=>first | rfl | (simp[rf1] at h1;done)
 have e2:qb [] y=y:=(by have h1:=hy.1;cases y<;>first | rfl | (simp[rf1] at h1;done))
 have h3:=zd9 (h:=[]) (jP hy) (by rw[e2];exact hy.2.2.2);rw[e2] at h3;rw[e1];exact h3
theorem zci {f:AV->Option AV}:∀ {l:List AV},(∀ x∈l,f x=some x)->zb f l=some l
 | [],_=>rfl
 | x :: l,h=>by simp only[zb,h x mem_cons_self,zci fun y hy=>h y (mem_cons_of_mem _ hy)]
theorem top_lit {z:Nat} {zero:List Value} {len:Nat} {parts:List (Nat×AOpd)} (h:top C q ty (.lit z zero len parts) d s k=some r):∃ v hs,k v hs=some r∧zW S q (.lit z zero len parts) d s v hs:=by
 simp only[top,litT] at h;split at h
 ·rename_i z0 ps hc hu hps;obtain ⟨hc,he⟩:=and_eq_true_iff.1 hc;obtain ⟨hz,hr⟩:=and_eq_true_iff.1 hc;rw[zH] at hz
  have hex:∀ (l:List (Nat×AOpd)) (ps:List (Nat×ty.den)),zb (fun (p:Nat×AOpd)=>match wx (s.ev p.2) with | some cs=>(match exq true cs,ziz ty cs with | true,some x=>some (p.1,x) | _,_=>none) | none=>none) l=some ps ->
    ∃ qs:List (Nat×List TV×ty.den),ps=qs.map (fun p=>(p.1,p.2.2))∧(∀ p∈qs,p.2.1.map (av1 s.hp)=ty.cells p.2.2) ∧
     zb (fun (p:Nat×AOpd)=>match (s.toA.ev p.2).cells with | some cs=>(match zb (qa fun _=>none) cs with | some cs=>if cs.length=z then some (p.1,cs) else none | none=>none) | none=>none) l=some (qs.map fun p=>(p.1,p.2.1.map (av1 s.hp))):=by
   intro l
   induction l with
   | nil=>intro ps h;simp only[zb,Option.some.injEq] at h;subst h;exact ⟨[],rfl,by simp,rfl⟩
   | cons p l ih =>
    intro ps h;simp only[zb] at h;split at h
    ·rename_i y ys h1 h2;cases h;obtain ⟨qs,k1,k2,k3⟩:=ih ys h2;split at h1
     ·rename_i cs hc;split at h1
      ·rename_i x hx hun;cases h1;obtain ⟨c1,c2⟩:=ww (yZ s p.2) hc;have hun':=yD hun s.hp;have hx':cs.map (av1 s.hp)=ty.cells x:=hun'.ex (by simpa[exq] using hx);refine ⟨(p.1,cs,x) :: qs,by simp[k1],by simpa using ⟨hx',fun a b c hm=>k2 (a,b,c) hm⟩, ?_⟩;have h3:zb (qa fun _=>none) (cs.map (av1 s.hp))=some (cs.map (av1 s.hp)):=zci fun x hx=>(by obtain ⟨y,hy,rfl⟩:=mem_map.1 hx;exact ziE (hun'.flat y hy));have hlen:(cs.map (av1 s.hp)).length=z:=by rw[hun'.pn.1,jR,hz]
       have e1:=zI s p.2;simp only[zb,e1,c1,h3,if_pos hlen]
       erw [k3]
       rfl
      ·cases h1
     ·cases h1
    ·cases h
  obtain ⟨qs,rfl,hx,k3⟩:=hex parts ps hps;have hrow:(qs.map fun p=>(p.1,p.2.1.map (av1 s.hp))).foldl (fun es p=>es.set p.1 p.2) (List.replicate len (zero.map AV.v))=((qs.map fun p=>(p.1,p.2.2)).foldl (fun es p=>es.set p.1 p.2) (List.replicate len z0)).map ty.cells:=by
   by_cases hex0:exq true (zero.map cst)=true
   ·obtain ⟨z1,z2⟩:=zgz (q:=true) hu hex0;rcases z1 with z1 | z1
    ·rw[z1,← map_replicate];exact yd qs hx
    ·cases z1
   ·have hcov:covB len (parts.map (·.1))=true:=by simpa[hex0] using he
    have hpos:parts.map (·.1)=(qs.map fun p=>(p.1,p.2.1.map (av1 s.hp))).map (·.1):=za0 (fun p y hy=>by
     split at hy
     ·split at hy
      ·split at hy
       ·cases hy;rfl
       ·cases hy
      ·cases hy
     ·cases hy) k3
    rw[zcx (qs.map fun p=>(p.1,p.2.1.map (av1 s.hp))) (List.replicate len (zero.map AV.v)) (List.replicate len (ty.cells z0)) (by simp) fun i hi => ?_]
    ·rw[← map_replicate];exact yd qs hx
    ·left;rw[← hpos];have:=all_eq_true.1 hcov i (by simpa using hi);obtain ⟨j,hj,e⟩:=List.any_eq_true.1 this;rw[zH] at e;subst e;exact hj
  refine ⟨_,_,h,.val rfl ?_⟩;simp only[aop]
  erw [k3]
  simp only[hrow,hz];rfl
 ·cases h
theorem zW.pre {o:AOp} {v:TV} {hs h1:THp} (hq:q=false) (hc:(za S).cv s.toA (s.push h1).toA) (h:zW S q o d (s.push h1) v hs):zW S q o d s v (hs++h1):=by
 obtain ⟨h0,a,st1,k1,k2,k3⟩:=h;rw[yt] at k1 k2;refine ⟨h0++h1,a,st1,.inr ⟨hq, ?_⟩,k2,fun dst => ?_⟩
 ·rcases k1 with k1 | ⟨_,k1⟩
  ·rw[← k1];exact hc
  ·exact zeM hc k1
 ·have:=k3 dst;rw[qS] at this ⊢;rw[← yt];simpa only[TSt.push,append_assoc] using this
theorem ziB {frz:Bool} {z:Nat} {zero:List Value} {len:Nat} {parts:List (Nat×AOpd)} (h:top C q ty (.bslice frz z zero len parts) d s k=some r):∃ v hs,k v hs=some r∧zW S q (.bslice frz z zero len parts) d s v hs:=by
 simp only[top] at h;split at h
 ·rename_i hr;obtain ⟨v,b,h1,h2⟩:=bslT_ok (S:=S) (frz:=frz) hr h;exact ⟨_,_,h1,h2⟩
 ·split at h
  ·cases h
  ·split at h
   ·cases h
   ·rename_i h1 hfz;split at h
    ·rename_i hr;obtain ⟨v,b,h2,h3⟩:=bslT_ok (S:=S) (frz:=frz) hr h;exact ⟨_,_,h2,h3.pre rfl (zbb _ _ _ hfz)⟩
    ·cases h
theorem elemsT_ok {t:Ty} {v:TV} {ys:List t.den} (hl:lv s.hp v=v) (h:elemsT t s.hp v=some ys):jq s.toA.hp t.z (av s.hp v)=some (ys.map t.cells):=by
 unfold elemsT at h;cases v with
 | nl=>simp only[qb,dSl,Option.some.injEq] at h;subst h;rfl
 | sl t' xs=>obtain ⟨rfl,rfl⟩:=zN h;simp only[av_sl,jq,if_true]
 | ns t' x =>
  cases x with
  | none=>obtain ⟨rfl,rfl⟩:=zN h;rfl
  | some xs=>obtain ⟨rfl,rfl⟩:=zN h;simp only[av,av2,av1,jq,if_true]
 | lw r' v =>obtain ⟨t',xs,hl'⟩:=zbs (q9 rfl hl);simp only[qb,hl',dSl] at h;obtain ⟨rfl,rfl⟩:=zN h;rw[zcZ hl'];simp[jq,z8,hl',blk,List.take_of_length_le]
 | _=>simp[qb,dSl] at h
theorem top_app {z:Nat} {x y:AOpd} (h:top C q ty (.app z x y) d s k=some r):∃ v hs,k v hs=some r∧zW S q (.app z x y) d s v hs:=by
 simp only[top] at h;split at h
 ·rename_i ys hz hy;rw[zH] at hz;have hel:=elemsT_ok (yZ s y) hy;rw[← hz] at hel;split at h
  ·rename_i hx;split at h
   ·rename_i hf;obtain ⟨h1,h⟩:=qy h;have h1:=of_decide_eq_true h1;obtain ⟨f0,f1⟩:=wK hf;refine ⟨_,_,h,.heap (a:=.lsl d z 0 ys.length) rfl (.newR f0) (fun _=>by rw[qx (zbe d s.ctr ty .int _ [])];exact f1) ?_ (by rw[zgw,hz])⟩;simp only[aop,zI,hel,hx,av_nl,length_map];rw[if_pos h1,z8,f0];simp only[blk,hz]
   ·cases h
  ·rename_i r' v hx;obtain ⟨e1,e2⟩:=jW hx;split at h
   ·rename_i v' t xs hl hb;obtain ⟨hb1,hb2⟩:=and_eq_true_iff.1 hb;have hb1:zaR r'=false:=by simpa using hb1
    split at h
    ·rename_i xs' hc;obtain ⟨rfl,rfl⟩:=zN hc;obtain ⟨h1,h⟩:=qy h;have h1:=of_decide_eq_true h1;refine ⟨_,_,h,⟨[],.lsl r' z 0 (xs'.length+ys.length),(s.toA.scrub r').setH r' (some (.arr t.z ((xs'++ys).map t.cells))),.inl rfl,wg rfl ?_,fun dst=>.inl ?_⟩⟩
     ·rw[we];simp only[aop,zI s y,hel,e1,zcZ hl,z8,hl,blk,length_map];rw[if_pos ⟨hb1,hz,hz,True.intro,h1⟩];simp only[map_append,hz]
     ·have e3:=zgw (s:=s) (n:=s.ctr) (d':=r') (t:=t) (xs:=xs'++ys);rw[List.length_append,← hz] at e3;rw[qS,toA_app hl hb2];show _=ASt.putO _ dst (Av ((r',TB.row s.ctr t (xs'++ys)) :: s.hp) (TV.lw r' s.ctr));rw[e3]
    ·cases h
   ·cases h
  ·cases h
 ·cases h
end
end
section
open Go Go.RowKit
theorem scr1g {h:THp} {r v:Nat} {t:Ty} {xs:List t.den} (h0:look r .gone h=.row v t xs) {y:TV} :
  zd ((r,.gone) :: h) y=(zd h y && !((A1 h y).refs.contains r))∧(zd ((r,.gone) :: h) y=true->A1 ((r,.gone) :: h) y=A1 h y):=by
 have other:∀ k,r≠k->look k .gone ((r,TB.gone) :: h)=look k .gone h:=fun k hk=>by rw[zj,if_neg hk]
 have here:look r .gone ((r,TB.gone) :: h)=.gone:=by rw[zj,if_pos rfl]
 have fin:∀ (b:Bool) (a:AV),(b=true->r ∉ a.refs)->b=(b && !(a.refs.contains r)):=by
  intro b a ha;cases b with
  | false=>rfl
  | true=>simp[List.contains_eq_mem,ha rfl]
 cases y with
 | lw k w =>
  by_cases hk:r=k
  ·subst hk;refine ⟨?_,fun hl => ?_⟩
   ·simp only[zd,here,h0,A1,lv1];cases hb:w.beq v with
    | false=>rfl
    | true=>simp[av1,h0,AV.refs]
   ·simp only[zd,here] at hl;cases hl
  ·refine ⟨?_,fun _ => ?_⟩
   ·rw[show zd ((r,TB.gone) :: h) (.lw k w)=zd h (.lw k w) by simp only[zd,other k hk]];refine fin _ _ fun _ hm => ?_;have:=(by
     simp only[A1,lv1] at hm
     repeat' split at hm
     all_goals (first | (simp only[av1] at hm;repeat' split at hm) | skip)
     all_goals (simp[AV.refs] at hm)
     all_goals exact hm:r=k)
    exact hk this
   ·simp only[A1,lv1,other k hk]
    repeat' split
    all_goals simp only[av1,other k hk]
 | ls k w off len =>
  by_cases hk:r=k
  ·subst hk;refine ⟨?_,fun hl => ?_⟩
   ·simp only[zd,here,h0,A1,lv1];cases hb:w.beq v with
    | false=>rfl
    | true=>simp[av1,h0,AV.refs]
   ·simp only[zd,here] at hl;cases hl
  ·refine ⟨?_,fun _ => ?_⟩
   ·rw[show zd ((r,TB.gone) :: h) (.ls k w off len)=zd h (.ls k w off len) by simp only[zd,other k hk]];refine fin _ _ fun _ hm => ?_;have:=(by
     simp only[A1,lv1] at hm
     repeat' split at hm
     all_goals (first | (simp only[av1] at hm;repeat' split at hm) | skip)
     all_goals (simp[AV.refs] at hm)
     all_goals exact hm:r=k)
    exact hk this
   ·simp only[A1,lv1,other k hk]
    repeat' split
    all_goals simp only[av1,other k hk]
 | pe k w i off =>
  by_cases hk:r=k
  ·subst hk;refine ⟨?_,fun hl => ?_⟩
   ·simp only[zd,here,h0,A1,lv1];cases hb:w.beq v with
    | false=>rfl
    | true=>simp[av1,h0,AV.refs]
   ·simp only[zd,here] at hl;cases hl
  ·refine ⟨?_,fun _ => ?_⟩
   ·rw[show zd ((r,TB.gone) :: h) (.pe k w i off)=zd h (.pe k w i off) by simp only[zd,other k hk]];refine fin _ _ fun _ hm => ?_;have:=(by
     simp only[A1,lv1] at hm
     repeat' split at hm
     all_goals (first | (simp only[av1] at hm;repeat' split at hm) | skip)
     all_goals (simp[AV.refs] at hm)
     all_goals exact hm:r=k)
    exact hk this
   ·simp only[A1,lv1,other k hk]
    repeat' split
    all_goals simp only[av1,other k hk]
 | pv k off =>
  by_cases hk:r=k
  ·subst hk;exact ⟨by simp only[zd,here,h0,Bool.false_and],fun hl=>by simp only[zd,here] at hl;cases hl⟩
  ·refine ⟨?_,fun _ => ?_⟩
   ·rw[show zd ((r,TB.gone) :: h) (.pv k off)=zd h (.pv k off) by simp only[zd,other k hk]];refine fin _ _ fun _ hm => ?_;have:=(by
     simp only[A1,lv1] at hm
     repeat' split at hm
     all_goals simp[av1,AV.refs] at hm
     all_goals exact hm:r=k)
    exact hk this
   ·simp only[A1,lv1,other k hk]
    repeat' split
    all_goals simp only[av1]
 | e x=>exact ⟨by cases x<;>simp[zd,A1,lv1,av1,Err.av,AV.refs,aI],fun _=>rfl⟩
 | ns t x=>exact ⟨by cases x<;>simp[zd,A1,lv1,av1,AV.refs,aN],fun _=>by cases x<;>rfl⟩
 | ag=>exact ⟨rfl,fun _=>rfl⟩
 | tp=>exact ⟨rfl,fun _=>rfl⟩
 | fn=>exact ⟨rfl,fun _=>rfl⟩
 | _=>exact ⟨by simp[zd,A1,lv1,av1,AV.refs,aI,aU,aB,aS,aN,ud],fun _=>rfl⟩
theorem scr2g {h:THp} {r v:Nat} {t:Ty} {xs:List t.den} (h0:look r .gone h=.row v t xs) {x:TV} :
  zG ((r,.gone) :: h) x=(zG h x && !((A2 h x).refs.contains r))∧(zG ((r,.gone) :: h) x=true->A2 ((r,.gone) :: h) x=A2 h x):=by
 by_cases hx:leaf x=true
 ·have:=scr1g (y:=x) h0;simp only[qC hx,jt hx];exact this
 ·cases x with
  | ag cs =>
   have h1:=fun y (hy:y∈cs)=>scr1g (y:=y) h0;have e:cs.all (zd ((r,.gone) :: h))=(cs.all (zd h) && !(cs.any fun y=>(A1 h y).refs.contains r)):=qO fun y hy=>(h1 y hy).1;refine ⟨?_,fun hl => ?_⟩
   ·simp only[zG];rw[e,jV];cases ha:cs.all (zd h) with
    | false=>rfl
    | true=>simp only[if_true,AV.refs,qr,any_map,Bool.true_and];rfl
   ·simp only[zG] at hl;have hl0:=hl;rw[e] at hl0;rw[jV,jV,if_pos hl,if_pos (and_eq_true_iff.1 hl0).1,map_congr_left fun y hy=>(h1 y hy).2 (all_eq_true.1 hl y hy)]
  | tp=>exact ⟨rfl,fun _=>rfl⟩
  | fn=>exact ⟨rfl,fun _=>rfl⟩
  | _=>simp[leaf] at hx
theorem scr3g {h:THp} {r v:Nat} {t:Ty} {xs:List t.den} (h0:look r .gone h=.row v t xs) {x:TV} :
  Av ((r,.gone) :: h) x=scrub r (Av h x):=by
 by_cases hx:leaf x=true
 ·rw[qA hx,qA hx];have key:=scr1g (y:=x) h0;have:=jc key.1 key.2;have e1:∀ h:THp,(if zd h x=true then A1 h x else .bot)=A1 h x:=fun h=>by
   cases hb:zd h x with
   | true=>rfl
   | false=>rw[zar hb];rfl
  rwa [e1,e1] at this
 ·have top:∀ (cs:List TV),cs.all (zG ((r,.gone) :: h))=(cs.all (zG h) && !(AV.refsL (cs.map (A2 h))).contains r) ∧
   (cs.all (zG ((r,.gone) :: h))=true->cs.map (A2 ((r,.gone) :: h))=cs.map (A2 h)):=by
   intro cs;have h1:=fun y (hy:y∈cs)=>scr2g (x:=y) h0;refine ⟨?_,fun hl=>map_congr_left fun y hy=>(h1 y hy).2 (all_eq_true.1 hl y hy)⟩;simp only[qr,any_map];exact qO fun y hy=>(h1 y hy).1
  cases x with
  | ag cs =>have h1:=fun y (hy:y∈cs)=>scr1g (y:=y) h0;have e:cs.all (zd ((r,.gone) :: h))=(cs.all (zd h) && !((AV.agg (cs.map (A1 h))).refs.contains r)):=(by simp only[AV.refs,qr,any_map];exact qO fun y hy=>(h1 y hy).1);rw[zbN,zbN];exact jc e fun hl=>by rw[map_congr_left fun y hy=>(h1 y hy).2 (all_eq_true.1 hl y hy)]
  | tp cs =>have:=top cs;rw[zbp,zbp];exact jc (by rw[AV.refs];exact this.1) fun hl=>by rw[this.2 hl]
  | fn f cs =>have:=top cs;rw[zaQ,zaQ];exact jc (by rw[AV.refs];exact this.1) fun hl=>by rw[this.2 hl]
  | _=>simp[leaf] at hx
theorem toA_gone {s:TSt} {r v:Nat} {t:Ty} {xs:List t.den} (h0:look r .gone s.hp=.row v t xs) :
  (s.push [(r,.gone)]).toA=(s.toA.scrub r).setH r none:=by
 have hfr:(s.push [(r,.gone)]).toA.fr=(s.toA.scrub r).fr:=(by funext k;simp only[zb6,TSt.push,cons_append,nil_append,ASt.scrub];exact scr3g h0);have hhp:(s.push [(r,.gone)]).toA.hp=upd (s.toA.scrub r).hp r none:=by
  funext k;simp only[z8,TSt.push,cons_append,nil_append,upd,zj,ASt.scrub];by_cases hr:r=k
  ·subst hr;simp[blk]
  ·rw[if_neg hr,if_neg (Ne.symm hr)];cases hb:look k .gone s.hp with
   | var cs =>
    simp only[blk,map_some,wZ,Option.some.injEq,Blk.var.injEq,map_map];refine map_congr_left fun y hy => ?_;simp only[Function.comp];by_cases hy:leaf y=true
    ·have:=scr3g h0 (x:=y)
     rwa [qA hy,qA hy] at this
    ·cases y<;>first | rfl | simp[leaf] at hy
   | _=>rfl
 show (⟨(s.push [(r,.gone)]).toA.fr,(s.push [(r,.gone)]).toA.hp⟩:ASt)=⟨(s.toA.scrub r).fr,upd (s.toA.scrub r).hp r none⟩;rw[hfr,hhp]
end
section
open Go Go.RowKit
section
variable {S:Seat} {q:Bool} {α:Type} {C:List CSpec} {ty:Ty} {d:Nat} {s:TSt} {k:TV->THp->Option α} {r:α}
def retK (S:Seat) (f:Nat) (as:List AV):(ks:List Nat)->(sh:Sh)->sh.den->Prop
 | [],sh,y=>(za S).ret f as (encA sh y) []
 | [i],.own t,y=>(za S).ret f as (.tup []) [(i,List.map t.cells y)]
 | _,_,_=>True
def qF (S:Seat) (C:List CSpec):Prop:=∀ c∈C,∀ x y,c.fn x=some y->retK S c.f (encAL c.sig x) (yV c.muts) c.res y
theorem wk_own {x y:AV} (h:Wk (fun _=>False) x y) (hy:zp y=true):x=y:=by
 cases h with
 | rfl=>rfl
 | _=>simp[zp] at hy
theorem ret_wk {f:Nat} {as bs:List AV} {r:AV} {outs:zdf} (hp:PK as bs) (hn:∀ (i:Nat) (x y:AV),as[i]? = some x->bs[i]? = some y->zp x=zp y) (h:(za S).ret f bs r outs):(za S).ret f as r outs:=by
 intro g hg;intro A w vs ι hl hA hι hJ ha;have ho:∀ (i:Nat) (x y:AV),as[i]? = some x->bs[i]? = some y->zp y=true->x=y:=fun i x y hx hy h=>wk_own (hp.2 i x y hx hy) h;refine (h g hg A w vs ι (by rw[hl,hp.1]) hA ⟨fun i b hb=>by rw[← hp.1];exact hι.1 i b hb,hι.2⟩ hJ fun i y hy => ?_).mono ?_
 ·obtain ⟨x,hx⟩:=zE hp.1 hy;have h1:=ha i x hx;cases hq:zp y with
  | true=>rw[← ho i x y hx hy hq];exact h1
  | false =>obtain ⟨k1,k2⟩:=wR h1 ((hn i x y hx hy).trans hq);rw[k1];exact qW (k2.wk (hp.2 i x y hx hy))
 ·rintro e w' ⟨v,he,hk,hj,β,hβ,hinj,hT,hr⟩;refine ⟨v,he,hk,hj,β,hβ,hinj,fun i es z es0 hm hx => ?_,hr⟩;have hlt:i < bs.length:=by rw[← hp.1];exact (List.getElem?_eq_some_iff.1 hx).1
  have hy:=List.getElem?_eq_getElem hlt;have h1:=hn i _ _ hx hy;have h2:=ho i _ _ hx hy h1.symm;exact hT i es z es0 hm (by rw[hy,← h2])
theorem retK_wk {f:Nat} {as bs:List AV} (hp:PK as bs) (hn:∀ (i:Nat) (x y:AV),as[i]? = some x->bs[i]? = some y->zp x=zp y):∀ (ks:List Nat) (sh:Sh) (y:sh.den),retK S f bs ks sh y->retK S f as ks sh y
 | [],_,_,h=>ret_wk hp hn h
 | [i],sh,y,h=>by
  cases sh with
  | own t=>exact ret_wk hp hn h
  | _=>trivial
 | _ :: _ :: _,sh,y,_=>by cases sh<;>trivial
theorem zcN {t:Ty} (ht:Sh.flat (.st t)=true) (x:t.den):(t.cells x).all AV.plain1=true:=by cases t<;>first | rfl | (simp[Sh.flat] at ht;done)
theorem zg6 {sh:Sh} (h:sh.flat=true) (x:sh.den):(encA sh x).plain2=true:=by
 cases sh with
 | err=>cases x<;>rfl
 | st t=>exact zcN h x
 | int=>rfl
 | u8=>rfl
 | bool=>rfl
 | str=>rfl
 | _=>simp[Sh.flat] at h
theorem zcE {P:AV->Bool}:∀ {l:List Sh} (x:Sh.denL l),(∀ sh∈l,∀ y:sh.den,P (encA sh y)=true)->(encAL l x).all P=true
 | [],_,_=>rfl
 | [sh],x,h=>by simp only[encAL,all_cons,List.all_nil,Bool.and_true];exact h sh (by simp) x
 | sh :: sh' :: l,x,h=>by
  simp only[encAL,all_cons,and_eq_true];refine ⟨h sh (by simp) _, ?_⟩;have:=zcE (P:=P) (l:=sh' :: l) x.2 fun sh hs=>h sh (mem_cons_of_mem _ hs);exact this
theorem plain_ok {sh:Sh} (h:sh.plain=true) (x:sh.den):(encA sh x).plain=true:=by
 cases sh with
 | tp l =>simp only[Sh.plain] at h;exact zcE x fun sh hs y=>zg6 (all_eq_true.1 h sh hs) y
 | unit=>rfl
 | err=>cases x<;>rfl
 | st t=>exact zcN h x
 | int=>rfl
 | u8=>rfl
 | bool=>rfl
 | str=>rfl
 | _=>simp[Sh.plain,Sh.flat] at h
theorem zf9 {sh:Sh} (hno:∀ t,sh≠.own t) (hnf:∀ f l,sh≠.fnc f l) (hnt:∀ l,sh≠.tp l) (hnu:sh≠.unit) (x:sh.den) (h:THp):lv2 h (enc sh x)=enc sh x∧av2 h (enc sh x)=encA sh x∧(∀ y∈qQ (enc sh x),rf1 y=[]):=by
 cases sh with
 | own t=>exact absurd rfl (hno t)
 | fnc f l=>exact absurd rfl (hnf f l)
 | tp l=>exact absurd rfl (hnt l)
 | unit=>exact absurd rfl hnu
 | err=>exact ⟨rfl,rfl,by simp[enc,qQ,rf1]⟩
 | st t =>obtain ⟨t1,t2⟩:=zbr t x h;refine ⟨mk_ag fun y hy=>jP (t2 y hy).1, ?_,fun y hy=>(t2 y hy).1.1⟩;simp only[enc,av2,encA,t1]
 | ns t=>cases x<;>exact ⟨rfl,rfl,by simp[enc,qQ,rf1]⟩
 | _=>exact ⟨rfl,rfl,by simp[enc,qQ,rf1]⟩
theorem zi2 {d' n m:Nat} {t:Ty} {xs:List t.den} (hf:za6 d n s=true) (hne:d'≠d):za6 d n (s.push [(d',.row m t xs)])=true:=by simp only[za6,jm,TSt.push,cons_append,nil_append,zj,if_neg hne,all_cons,Bool.true_and] at hf ⊢;exact hf
theorem zib (h:THp):∀ (l:List Sh) (x:Sh.denL l),(l.all fun x=>x.ans1 && !x.own1)=true->(∀ y∈wd l x,zG h y=true)∧(wd l x).map (A2 h)=encAL l x∧(encAL l x).all (fun x => !zp x)=true:=by
 have two:∀ (sh:Sh) (x:sh.den),(sh.ans1 && !sh.own1)=true->zG h (enc sh x)=true∧A2 h (enc sh x)=encA sh x∧zp (encA sh x)=false:=by
  intro sh x h0;simp only[and_eq_true,not_eq_true'] at h0;have g:(∀ t,sh≠.own t)∧(∀ f l,sh≠.fnc f l)∧(∀ l,sh≠.tp l)∧sh≠.unit:=(by refine ⟨fun t e => ?_,fun f l e => ?_,fun l e => ?_,fun e => ?_⟩<;>(subst e;first | (simp[Sh.own1] at h0;done) | (simp[Sh.ans1] at h0;done)))
  obtain ⟨e1,e2,_⟩:=zf9 g.1 g.2.1 g.2.2.1 g.2.2.2 x h;refine ⟨by rw[← e1];exact j9 _ _,by rw[A2,e1,e2], ?_⟩;cases sh with
  | own t=>exact absurd rfl (g.1 t)
  | err=>cases x<;>rfl
  | ns t=>cases x<;>rfl
  | _=>rfl
 intro l
 induction l with
 | nil=>intro x _;exact ⟨by simp[wd],rfl,rfl⟩
 | cons sh l ih =>
  intro x hl;simp only[all_cons,and_eq_true] at hl;cases l with
  | nil =>obtain ⟨k1,k2,k3⟩:=two sh x (by simpa using hl.1);exact ⟨by simp[wd,k1],by simp[wd,encAL,k2],by simp[encAL,k3]⟩
  | cons sh' l =>
   obtain ⟨k1,k2,k3⟩:=two sh x.1 (by simpa using hl.1);obtain ⟨m1,m2,m3⟩:=ih x.2 (by simpa using hl.2);refine ⟨fun y hy => ?_,by simp only[wd,encAL,map_cons,k2,m2],by simp only[encAL,all_cons,k3,m3];rfl⟩;simp only[wd] at hy;rcases mem_cons.1 hy with rfl | hy
   ·exact k1
   ·exact m1 y hy
theorem opnL_ok:∀ (l:List Sh) (i:Nat) (x:Sh.denL l) {s:TSt} {n:Nat} {ys:List TV} {hs:THp},l.all Sh.ans1=true->zfD s n d i l x=some (ys,hs) ->
  ∃ zs,zbJ d i (encAL l x) s.toA=some (zs,(s.push hs).toA)∧zs=ys.map (A2 (hs++s.hp))∧(∀ y∈ys,zG (hs++s.hp) y=true)∧(∀ r,(∀ j,r≠d+10000 * (i+1+j))->look r .gone (hs++s.hp)=look r .gone s.hp):=by
 have one:∀ (sh:Sh) (x:sh.den) (i:Nat) {s:TSt} {n:Nat},sh.ans1=true->(∀ t,sh≠.own t)->(∀ (r:List AV),zbJ d i (encA sh x :: r) s.toA=match zbJ d (i+1) r s.toA with | some (ys,st')=>some (encA sh x :: ys,st') | none=>none):=by
  intro sh x i s n h1 h2 r;cases sh with
  | own t=>exact absurd rfl (h2 t)
  | ns t=>cases x<;>rfl
  | err=>cases x<;>rfl
  | _=>rfl
 have good:∀ (sh:Sh),sh.ans1=true->(∀ f l,sh≠.fnc f l)∧(∀ l,sh≠.tp l)∧sh≠.unit:=(by intro sh h;refine ⟨fun f l e => ?_,fun l e => ?_,fun e => ?_⟩<;>(subst e;simp[Sh.ans1] at h))
 have nonown:∀ (sh:Sh) (x:sh.den) (hp:THp),sh.ans1=true->(∀ t,sh≠.own t)->A2 hp (enc sh x)=encA sh x∧zG hp (enc sh x)=true:=(by intro sh x hp h1 h2;obtain ⟨g1,g2,g3⟩:=good sh h1;obtain ⟨e1,e2,_⟩:=zf9 h2 g1 g2 g3 x hp;refine ⟨by rw[A2,e1,e2],by rw[← e1];exact j9 _ _⟩);intro l
 induction l with
 | nil =>intro i x s n ys hs _ h;simp only[zfD,Option.some.injEq,Prod.mk.injEq] at h;obtain ⟨rfl,rfl⟩:=h;exact ⟨[],rfl,rfl,by simp,fun r _=>rfl⟩
 | cons sh l ih =>
  intro i x s n ys hs hall h;simp only[all_cons,and_eq_true] at hall;by_cases ho:∃ t,sh=.own t
  ·obtain ⟨t,rfl⟩:=ho;cases l with
   | nil =>
    simp only[zfD] at h;split at h
    ·rename_i hf;simp only[Option.some.injEq,Prod.mk.injEq] at h;obtain ⟨rfl,rfl⟩:=h;obtain ⟨f0,f1⟩:=wK hf;have e:=wC (s:=s) (d:=d+10000 * (i+1)) (b:=.row n t x) (.newR f0) fun _=>by rw[qx (zbe _ n t .int _ [])];exact f1
     have hl:look (d+10000 * (i+1)) .gone ((d+10000 * (i+1),TB.row n t x) :: s.hp)=.row n t x:=by rw[zj,if_pos rfl]
     refine ⟨[.lsl (d+10000 * (i+1)) t.z 0 x.length], ?_, ?_, ?_,fun r hr => ?_⟩
     ·simp only[encAL,encA,zbJ];have e0:s.toA.hp (d+10000 * (i+1))=none:=by rw[z8,f0];rfl
      simp only[e0,e,length_map];rfl
     ·simp only[map_cons,map_nil,cons_append,nil_append];rw[jt rfl,A1];simp only[lv1,hl,beq_refl,av1]
     ·intro y hy;simp only[mem_singleton] at hy;subst hy;simp only[cons_append,nil_append,zG,zd,hl,beq_refl]
     ·simp only[cons_append,nil_append,zj];rw[if_neg];exact fun e=>hr 0 (by omega)
    ·cases h
   | cons sh' l =>
    simp only[zfD] at h;split at h
    ·rename_i ys' hs' hf hrec;simp only[Option.some.injEq,Prod.mk.injEq] at h;obtain ⟨rfl,rfl⟩:=h;obtain ⟨f0,f1⟩:=wK hf;have e:=wC (s:=s) (d:=d+10000 * (i+1)) (b:=.row n t x.1) (.newR f0) fun _=>by rw[qx (zbe _ n t .int _ [])];exact f1
     -- the rest,behind this row
     have mono:∀ (l:List Sh) (i':Nat) (x':Sh.denL l) (ys:List TV) (hs:THp),i < i'->zfD s n d i' l x'=some (ys,hs)->zfD (s.push [(d+10000 * (i+1),.row n t x.1)]) n d i' l x'=some (ys,hs):=by
      intro l
      induction l with
      | nil=>intro i' x' ys hs _ h;exact h
      | cons sh l ihl =>
       intro i' x' ys hs hi h;have hfr:∀ {b},za6 (d+10000 * (i'+1)) n s=b->b=true->za6 (d+10000 * (i'+1)) n (s.push [(d+10000 * (i+1),.row n t x.1)])=true:=fun h hb=>(by subst hb;exact zi2 h (by omega));by_cases ho:∃ t,sh=.own t
       ·obtain ⟨t',rfl⟩:=ho;cases l with
        | nil =>
         simp only[zfD] at h ⊢;split at h
         ·rename_i hb;rw[hfr hb rfl];exact h
         ·cases h
        | cons sh' l =>
         simp only[zfD] at h ⊢;split at h
         ·rename_i ys' hs' hb hrec;rw[hfr hb rfl,ihl (i'+1) _ _ _ (by omega) hrec];exact h
         ·cases h
       ·cases l with
        | nil=>cases sh with
         | own t=>exact absurd ⟨t,rfl⟩ ho
         | _=>exact h
        | cons sh' l =>
         cases sh with
         | own t=>exact absurd ⟨t,rfl⟩ ho
         | _ =>
          simp only[zfD] at h ⊢;split at h
          ·rename_i ys' hs' hrec;rw[ihl (i'+1) _ _ _ (by omega) hrec];exact h
          ·cases h
     have hrec':=mono (sh' :: l) (i+1) x.2 ys' hs' (by omega) hrec;obtain ⟨zs,k1,k2,k3,k4⟩:=ih (i+1) x.2 hall.2 hrec';have hpe:hs'++(s.push [(d+10000 * (i+1),.row n t x.1)]).hp=(hs'++[(d+10000 * (i+1),.row n t x.1)])++s.hp:=by simp[TSt.push]
     rw[hpe] at k2 k3 k4;have hl:look (d+10000 * (i+1)) .gone ((hs'++[(d+10000 * (i+1),.row n t x.1)])++s.hp)=.row n t x.1:=(by rw[k4 _ (fun j=>by omega)];simp only[TSt.push,cons_append,nil_append,zj,if_true]);refine ⟨.lsl (d+10000 * (i+1)) t.z 0 (List.length x.1) :: zs, ?_, ?_, ?_,fun r hr => ?_⟩
     ·simp only[encAL,encA,zbJ];have e0:s.toA.hp (d+10000 * (i+1))=none:=by rw[z8,f0];rfl
      have e':s.toA.setH (d+10000 * (i+1)) (some (.arr t.z (List.map t.cells x.1)))=(s.push [(d+10000 * (i+1),.row n t x.1)]).toA:=by rw[e];rfl
      simp only[e0,e',k1,length_map,yt]
     ·simp only[map_cons,← k2];rw[jt rfl,A1];simp only[lv1,hl,beq_refl,av1]
     ·intro y hy;rcases mem_cons.1 hy with rfl | hy
      ·simp only[zG,zd,hl,beq_refl]
      ·exact k3 y hy
     ·rw[k4 r fun j e=>hr (j+1) (by omega)];simp only[TSt.push,cons_append,nil_append,zj];rw[if_neg];exact fun e=>hr 0 (by omega)
    ·cases h
  ·have hno:∀ t,sh≠.own t:=fun t e=>ho ⟨t,e⟩;cases l with
   | nil =>
    have h':some ([enc sh x],([]:THp))=some (ys,hs):=by
     cases sh with
     | own t=>exact absurd rfl (hno t)
     | _=>exact h
    simp only[Option.some.injEq,Prod.mk.injEq] at h';obtain ⟨rfl,rfl⟩:=h';obtain ⟨n1,n2⟩:=nonown sh x s.hp hall.1 hno;refine ⟨[encA sh x], ?_,by simp[n1],by simp[n2],fun r _=>rfl⟩;simp only[encAL];rw[one sh x i hall.1 hno (s:=s) (n:=0)];rfl
   | cons sh' l =>
    have h':(match zfD s n d (i+1) (sh' :: l) x.2 with | some (ys,hs)=>some (enc sh x.1 :: ys,hs) | none=>none)=some (ys,hs):=by
     cases sh with
     | own t=>exact absurd rfl (hno t)
     | _=>exact h
    split at h'
    ·rename_i ys' hs' hrec;simp only[Option.some.injEq,Prod.mk.injEq] at h';obtain ⟨rfl,rfl⟩:=h';obtain ⟨zs,k1,k2,k3,k4⟩:=ih (i+1) x.2 hall.2 hrec;obtain ⟨n1,n2⟩:=nonown sh x.1 (hs'++s.hp) hall.1 hno;refine ⟨encA sh x.1 :: zs, ?_,by simp[n1,k2], ?_,fun r hr=>k4 r fun j e=>hr (j+1) (by omega)⟩
     ·simp only[encAL];rw[one sh x.1 i hall.1 hno (s:=s) (n:=0),k1]
     ·intro y hy;rcases mem_cons.1 hy with rfl | hy
      ·exact n2
      ·exact k3 y hy
    ·cases h'
theorem opn_ok {sh:Sh} {x:sh.den} {n:Nat} {v:TV} {hs:THp} (ha:sh.ansC=true) (h:opn s n d sh x=some (v,hs)):imp d (encA sh x) s.toA=some (Av (hs++s.hp) v,(s.push hs).toA):=by
 have other:(∀ t,sh≠.own t)->(∀ f l,sh≠.fnc f l)->(∀ l,sh≠.tp l)->sh≠.unit->v=enc sh x∧hs=[]->imp d (encA sh x) s.toA=some (Av (hs++s.hp) v,(s.push hs).toA):=by
  rintro h1 h2 h3 h4 ⟨rfl,rfl⟩;obtain ⟨e1,e2,_⟩:=zf9 h1 h2 h3 h4 x s.hp;have e3:Av s.hp (enc sh x)=encA sh x:=by
   rw[jU (zdO e1),← e2];cases he:enc sh x with
   | tp=>rw[he] at e1;simp[lv2,lv1] at e1
   | fn=>rw[he] at e1;simp[lv2,lv1] at e1
   | _=>rfl
  simp only[nil_append,e3,we];cases sh with
  | own t=>exact absurd rfl (h1 t)
  | fnc f l=>exact absurd rfl (h2 f l)
  | tp l=>exact absurd rfl (h3 l)
  | unit=>exact absurd rfl h4
  | err=>cases x<;>rfl
  | ns t=>cases x<;>rfl
  | _=>rfl
 cases sh with
 | own t =>
  simp only[opn] at h;split at h
  ·rename_i hf;simp only[Option.some.injEq,Prod.mk.injEq] at h;obtain ⟨rfl,rfl⟩:=h;obtain ⟨f0,f1⟩:=wK hf;have e:=wC (s:=s) (d:=d) (b:=.row n t x) (.newR f0) fun _=>by rw[qx (zbe _ n t .int _ [])];exact f1
   have e0:s.toA.hp d=none:=by rw[z8,f0];rfl
   have e3:=zgw (s:=s) (n:=n) (d':=d) (t:=t) (xs:=x);simp only[encA,imp,e0,length_map,cons_append,nil_append,e3,e];rfl
  ·cases h
 | tp l =>
  simp only[opn] at h;split at h
  ·rename_i ys hs' hrec;simp only[Option.some.injEq,Prod.mk.injEq] at h;obtain ⟨rfl,rfl⟩:=h;obtain ⟨zs,k1,k2,k3,_⟩:=opnL_ok l 0 x ha hrec;simp only[encA,imp,k1];rw[zbp,if_pos (all_eq_true.2 k3),k2]
  ·cases h
 | unit=>simp only[opn,Option.some.injEq,Prod.mk.injEq] at h;obtain ⟨rfl,rfl⟩:=h;rfl
 | fnc f l =>simp only[opn,Option.some.injEq,Prod.mk.injEq] at h;obtain ⟨rfl,rfl⟩:=h;obtain ⟨k1,k2,_⟩:=zib ([]++s.hp) l x ha;simp only[encA,enc,imp];rw[zaQ,if_pos (all_eq_true.2 k1),k2,we]
 | _=>simp only[opn,Option.some.injEq,Prod.mk.injEq] at h;exact other (by simp) (by simp) (by simp) (by simp) ⟨h.1.symm,h.2.symm⟩
theorem zhP {sh:Sh} (h:sh.owns=false) (x:sh.den):zgW (encA sh x)=true:=by
 have one:∀ (sh:Sh),sh.own1=false->∀ x:sh.den,(!zp (encA sh x))=true:=by
  intro sh h x;cases sh with
  | own t=>simp[Sh.own1] at h
  | err=>cases x<;>rfl
  | ns t=>cases x<;>rfl
  | _=>rfl
 cases sh with
 | own t=>simp[Sh.owns] at h
 | tp l=>exact zcE x fun sh hs y=>one sh (wA h sh hs) y
 | err=>cases x<;>rfl
 | ns t=>cases x<;>rfl
 | _=>rfl
theorem noOwn_hs {sh:Sh} {x:sh.den} {n:Nat} {v:TV} {hs:THp} (ho:sh.owns=false) (h:opn s n d sh x=some (v,hs)):(s.push hs).toA=s.toA:=by
 have nil:hs=[]:=by
  cases sh with
  | own t=>simp[Sh.owns] at ho
  | tp l =>
   simp only[opn] at h;split at h
   ·rename_i ys hs' hrec;simp only[Option.some.injEq,Prod.mk.injEq] at h;obtain ⟨rfl,rfl⟩:=h;have:∀ (l:List Sh) (i:Nat) (x:Sh.denL l) (ys:List TV) (hs:THp),l.any Sh.own1=false->zfD s n d i l x=some (ys,hs)->hs=[]:=by
     intro l
     induction l with
     | nil=>intro i x ys hs _ h;simp only[zfD,Option.some.injEq,Prod.mk.injEq] at h;exact h.2.symm
     | cons sh l ih =>
      intro i x ys hs ho h;simp only[List.any_cons,Bool.or_eq_false_iff] at ho;cases l with
      | nil=>cases sh with
       | own t=>simp[Sh.own1] at ho
       | _=>simp only[zfD,Option.some.injEq,Prod.mk.injEq] at h;exact h.2.symm
      | cons sh' l =>
       cases sh with
       | own t=>simp[Sh.own1] at ho
       | _ =>
        simp only[zfD] at h;split at h
        ·rename_i ys' hs' hrec;simp only[Option.some.injEq,Prod.mk.injEq] at h;rw[← h.2];exact ih (i+1) _ _ _ ho.2 hrec
        ·cases h
    exact this l 0 x _ _ ho hrec
   ·cases h
  | _=>simp only[opn,Option.some.injEq,Prod.mk.injEq] at h;exact h.2.symm
 subst nil;rfl
def zbH (S:Seat) (q frz:Bool) (f:Nat) (vs:List TV) (d:Nat) (s:TSt) (a:AV) (st1:ASt):Prop :=
 if q=true then st1=s.toA∧zgv (za S) f (vs.map (av s.hp)) s.toA a else zaq (za S) frz [] f (vs.map (av s.hp)) d s.toA a st1
theorem zcG {h:THp} {sh:Sh} {v:TV} {x:sh.den} (hd:dec h sh v=some x):zp (encA sh x)=false:=by
 cases sh with
 | own t=>simp[dec] at hd
 | err=>cases x<;>rfl
 | ns t=>cases x<;>rfl
 | _=>rfl
theorem zdY {h:THp}:∀ {l:List Sh} {vs:List TV} {x:Sh.denL l},wN h l vs=some x->∀ y∈encAL l x,zp y=false
 | [],[],_,_,y,hy=>by simp[encAL] at hy
 | [],_ :: _,_,hd,_,_=>by simp[wN] at hd
 | [sh],[],_,hd,_,_=>by simp[wN] at hd
 | [sh],[v],x,hd,y,hy=>by
  simp only[wN] at hd;simp only[encAL,mem_singleton] at hy;subst hy;exact zcG hd
 | [sh],_ :: _ :: _,_,hd,_,_=>by simp[wN] at hd
 | sh :: sh' :: l,[],_,hd,_,_=>by simp[wN] at hd
 | sh :: sh' :: l,v :: vs,x,hd,y,hy=>by
  simp only[wN] at hd;split at hd
  ·rename_i a b h1 h2;cases hd;simp only[encAL] at hy;rcases mem_cons.1 hy with rfl | hy
   ·exact zcG h1
   ·exact zdY h2 y hy
  ·cases hd
theorem ansT_ok {frz:Bool} {f:Nat} {c:CSpec} {x:Sh.denL c.sig} {vs:List TV} (hC:∀ x y,c.fn x=some y->(za S).ret c.f (encAL c.sig x) (encA c.res y) []) (hf:c.f=f) (hl:∀ v∈vs,lv s.hp v=v) (hd:wN s.hp c.sig vs=some x)
  (hp:c.res.plain=true∨vs.flatMap rf=[]) (h:ansT q c d s x k=some r):∃ v hs a st1,k v hs=some r∧zbH S q frz f vs d s a st1∧∀ dst:Option Nat,st1.putO dst a=((s.push hs).putO dst v).toA:=by
 unfold ansT at h;split at h
 ·cases h
 ·rename_i hcond;simp only[Bool.or_eq_false_iff,Bool.not_eq_false'] at hcond;obtain ⟨ho,ha⟩:=hcond;have main:∀ y,c.fn x=some y->(match opn s s.ctr d c.res y with | some (v,hs)=>k v hs | none=>none)=some r->∃ v hs a st1,k v hs=some r∧zbH S q frz f vs d s a st1∧∀ dst:Option Nat,st1.putO dst a=((s.push hs).putO dst v).toA:=by
   intro y hy h;split at h
   ·rename_i v hs hop;have himp:=opn_ok ha hop;obtain ⟨as,h1,h2⟩:=decL_ok hl hd;have hret:(za S).ret f as (encA c.res y) []:=(by rw[← hf];refine ret_wk h2 (fun i a b ha hb => ?_) (hC x y hy);rw[zdY hd b (mem_of_getElem? hb)];obtain ⟨x0,_,hx1⟩:=(zy h1).2 i a ha;exact zaT hx1);have hrefs:vs.flatMap rf=[]->AV.refsL (vs.map (av s.hp))=[]:=fun hv=>(by refine eq_nil_iff_forall_not_mem.2 fun r0 hr0 => ?_;obtain ⟨_,m1,m2⟩:=ze.1 hr0;obtain ⟨v0,hv0,rfl⟩:=mem_map.1 m1;rw[zee (hl v0 hv0) (flatMap_eq_nil_iff.1 hv v0 hv0)] at m2;cases m2);have hset:(encA c.res y).plain=true∨AV.refsL (vs.map (av s.hp))=[]:=hp.imp (fun h=>plain_ok h y) hrefs;have hpass:zK s.toA.hp [] 0 (vs.map (av s.hp))=some as:=by rw[wl];exact h1
    cases hq:q with
    | true =>
     rw[hq,Bool.true_and] at ho;have e:=noOwn_hs ho hop;rw[e,zaJ (zhP ho y)] at himp;simp only[Option.some.injEq,Prod.mk.injEq] at himp;refine ⟨v,hs,encA c.res y,s.toA,h, ?_,fun dst => ?_⟩
     ·unfold zbH;rw[if_pos rfl];exact ⟨rfl,as,hpass,hret,hset,zhP ho y⟩
     ·rw[qS,e,himp.1];rfl
    | false =>
     refine ⟨v,hs,_,_,h, ?_,fun dst=>(qS _ dst v).symm⟩;unfold zbH;rw[if_neg (by simp)];refine ⟨as,encA c.res y,[],s.toA,s.toA,hpass,by rw[zbB];first | done | rfl,hret, ?_,⟨by rw[qR];rfl,rfl,by rw[qR];rfl⟩,by rw[qR];exact himp⟩
     simp only[settle,isEmpty_nil,if_true];rw[if_pos hset]
   ·cases h
  split at h
  ·split at h
   ·rename_i y hy;exact main y hy h
   ·cases h
  ·obtain ⟨y,hy,h⟩:=yi h;exact main y hy h
theorem zbY {q2 fz frz:Bool} (h2:fz=true->q2=q) {f:Nat} {args:TSt->List TV} {o:AOp}:∀ {C:List CSpec},qF S C->(∀ s':TSt,(s'=s∨(fz=true∧∃ h1,s'=s.push h1))->(∀ v∈args s',lv s'.hp v=v)∧∀ a st1,zbH S q frz f (args s') d s' a st1->qX (za S) q2 o d s'.toA a st1) ->
  zeQ C q fz f args d s k=some r->∃ v hs,k v hs=some r∧zW S q2 o d s v hs
 | [],_,_,h=>by cases h
 | c :: C,hC,hA,h=>by
  have rest:zeQ C q fz f args d s k=some r->∃ v hs,k v hs=some r∧zW S q2 o d s v hs:=zbY h2 (fun c hc=>hC c (mem_cons_of_mem _ hc)) hA;unfold zeQ at h;split at h
  ·exact rest h
  ·rename_i hb;obtain ⟨hb,hmu⟩:=and_eq_true_iff.1 hb;rw[zH] at hb;have hC1:∀ x y,c.fn x=some y->(za S).ret c.f (encAL c.sig x) (encA c.res y) []:=fun x y hy=>(by have:=hC c mem_cons_self x y hy;rw[isEmpty_iff.1 hmu] at this;exact this);split at h
   ·exact rest h
   ·rename_i x hx;split at h
    ·rename_i hcond;obtain ⟨v,hs,a,st1,k1,k2,k3⟩:=ansT_ok (S:=S) (frz:=frz) hC1 hb (hA s (.inl rfl)).1 hx (by simpa only[Bool.or_eq_true,isEmpty_iff] using hcond) h;exact ⟨v,hs,k1,[],a,st1,.inl rfl,(hA s (.inl rfl)).2 a st1 k2,fun dst=>.inl (k3 dst)⟩
    ·split at h
     ·cases h
     ·rename_i hq;simp only[Bool.or_eq_false_iff,Bool.not_eq_false'] at hq;split at h
      ·cases h
      ·rename_i h1 hfz;split at h
       ·rename_i x' hx' hem;have hA':=hA (s.push h1) (.inr ⟨hq.2,h1,rfl⟩);obtain ⟨v,hs,a,st1,k1,k2,k3⟩:=ansT_ok (S:=S) (frz:=frz) hC1 hb hA'.1 hx' (.inr (isEmpty_iff.1 hem)) h;have st:zW S q2 o d (s.push h1) v hs:=⟨[],a,st1,.inl rfl,hA'.2 a st1 k2,fun dst=>.inl (k3 dst)⟩;exact ⟨v,_,k1,st.pre ((h2 hq.2).trans hq.1) (zbb _ _ _ hfz)⟩
       ·cases h
theorem zdy {hp:Nat->Option Blk} {x a:AV} (hr:x.refs=[]) (h:qa hp x=some a):a=x:=by
 cases x with
 | pe=>simp[AV.refs] at hr
 | lsl=>simp[AV.refs] at hr
 | own=>simp[qa] at h
 | _=>simp only[qa,hr,isEmpty_nil,if_true,Option.some.injEq] at h;exact h.symm
theorem zae {f:AV->Option AV}:∀ {l as:List AV},(∀ x∈l,∀ a,f x=some a->a=x)->zb f l=some as->as=l
 | [],as,_,h=>by simp only[zb,Option.some.injEq] at h;exact h.symm
 | x :: l,as,hx,h=>by
  simp only[zb] at h;split at h
  ·rename_i y ys h1 h2;cases h;rw[hx x mem_cons_self y h1,zae (fun x hm=>hx x (mem_cons_of_mem _ hm)) h2]
  ·cases h
theorem zdE {cs:List AV} (h:AV.refsL cs=[]):∀ x∈cs,x.refs=[]:=fun x hx=>eq_nil_iff_forall_not_mem.2 fun s hs=>by
 have:=ze.2 ⟨x,hx,hs⟩;rw[h] at this;cases this
theorem zdx {hp:Nat->Option Blk} {x a:AV} (hr:x.refs=[]) (h:qe hp x=some a):a=x:=by
 cases x with
 | pv=>simp[AV.refs] at hr
 | agg cs =>
  simp only[qe] at h;split at h
  ·rename_i cs' hcs;cases h;rw[AV.refs] at hr;rw[zae (fun x hx a ha=>zdy (zdE hr x hx) ha) hcs]
  ·cases h
 | _=>simp only[qe] at h;exact zdy hr h
theorem zfn {hp:Nat->Option Blk} {x a:AV} (hr:x.refs=[]) (h:zas hp x=some a):a=x:=by
 have lst:∀ {cs cs':List AV},AV.refsL cs=[]->zb (qe hp) cs=some cs'->cs'=cs:=fun hr hcs=>zae (fun x hx a ha=>zdx (zdE hr x hx) ha) hcs;cases x with
 | fn f cs =>
  simp only[zas] at h;split at h
  ·rename_i cs' hcs;cases h;rw[AV.refs] at hr;rw[lst hr hcs]
  ·cases h
 | tup cs =>
  simp only[zas] at h;split at h
  ·rename_i cs' hcs;cases h;rw[AV.refs] at hr;rw[lst hr hcs]
  ·cases h
 | agg cs =>
  simp only[zas] at h;split at h
  ·rename_i cs' hcs;cases h;rw[AV.refs] at hr;rw[lst hr hcs]
  ·cases h
 | _=>simp only[zas] at h;exact zdx hr h
theorem decM1_ok {h:THp} {hd:Bool} {sh:Sh} {v:TV} {x:sh.den} (hl:lv h v=v) (hx:decM1 h hd sh v=some x) :
  (hd=true∧∃ s v' v'' t xs,v=.lw s v'∧look s .gone h=.row v'' t xs∧av h v=.lsl s t.z 0 (xs.map t.cells).length∧encA sh x=.own t.z (xs.map t.cells)) ∨
  (hd=false∧(av h v).refs=[]∧Wk (fun _=>False) (av h v) (encA sh x)∧zp (av h v)=false∧zp (encA sh x)=false):=by
 by_cases ho:∃ t,sh=.own t
 ·obtain ⟨t,rfl⟩:=ho;simp only[decM1] at hx;split at hx
  ·rename_i s v';split at hx
   ·rename_i v'' t' xs hq;obtain ⟨rfl,rfl⟩:=zN hx;exact .inl ⟨rfl,s,v',v'',t',_,rfl,hq,by rw[zcZ hq,length_map],rfl⟩
   ·cases hx
  ·cases hx
 ·have hx':(match (generalizing:=false) hd,rf v with | false,[]=>dec h sh v | _,_=>none)=some x:=by
   cases sh with
   | own t=>exact absurd ⟨t,rfl⟩ ho
   | _=>exact hx
  split at hx'
  ·rename_i hr;obtain ⟨a,k1,k2⟩:=dec_ok hl hx';have hr':=zee hl hr;have e:=zfn hr' k1;subst e;exact .inr ⟨rfl,hr',k2,zaT k1,zcG hx'⟩
  ·cases hx'
theorem decM_ok {h:THp} {muts:List Nat} (hm:muts.isEmpty=false):∀ {i:Nat} {l:List Sh} {vs:List TV} {x:Sh.denL l},(∀ v∈vs,lv h v=v)->decM h muts i l vs=some x ->
  ∃ as,zK (hpA h) muts i (vs.map (av h))=some as∧PK as (encAL l x)∧(∀ (j:Nat) (a b:AV),as[j]? = some a->(encAL l x)[j]? = some b->zp a=zp b) ∧
   zR muts i (vs.map (av h))=hsT muts i vs∧zD muts i (vs.map (av h))=esT muts i vs∧(∀ s∈hsT muts i vs,∃ v t xs,look s .gone h=.row v t xs)∧(∀ s∈esT muts i vs,s∈hsT muts i vs):=by
 have one:∀ {i:Nat} {sh:Sh} {v:TV} {x:sh.den} {rest:List AV} {as:List AV},lv h v=v->decM1 h (zx muts i) sh v=some x->zK (hpA h) muts (i+1) rest=some as ->
   ∃ a,zK (hpA h) muts i (av h v :: rest)=some (a :: as)∧Wk (fun _=>False) a (encA sh x)∧zp a=zp (encA sh x)∧zR muts i (av h v :: rest)=yq (zx muts i) v++zR muts (i+1) rest ∧
    zD muts i (av h v :: rest)=yq (zx muts i && !muts.contains i) v++zD muts (i+1) rest∧(∀ s∈yq (zx muts i) v,∃ v t xs,look s .gone h=.row v t xs)∧(∀ s∈yq (zx muts i && !muts.contains i) v,s∈yq (zx muts i) v):=by
  intro i sh v x rest as hl hx hrest;rcases decM1_ok hl hx with ⟨hh,s,v',v'',t,xs,rfl,hq,e1,e2⟩ | ⟨hh,hr,hw,n1,n2⟩
  ·refine ⟨.own t.z (xs.map t.cells), ?_,by rw[e2];exact .rfl _,by rw[e2], ?_, ?_, ?_, ?_⟩
   ·rw[e1];have hb:hpA h s=some (.arr t.z (xs.map t.cells)):=by simp only[hpA,hq,blk]
    simp only[zK,hh,if_true,hb,and_self,hrest]
   ·rw[e1];simp only[zR,hh,if_true,yq]
   ·rw[e1];simp only[zD,hh,Bool.true_and];cases muts.contains i<;>rfl
   ·rw[hh];intro s' hs';simp only[yq,mem_singleton] at hs';subst hs';exact ⟨_,_,_,hq⟩
   ·rw[hh];cases muts.contains i<;>simp[yq]
  ·have nl:∀ (l:List Nat),(match av h v with | .lsl s _ _ _=>[s] | _=>([]:List Nat))=l->True:=fun _ _=>trivial
   refine ⟨av h v, ?_,hw,n1.trans n2.symm, ?_, ?_, ?_, ?_⟩
   ·simp only[zK,hh,hm,false_eq_true,if_false,hr,isEmpty_nil,if_true,hrest]
   ·simp only[zR,hh,false_eq_true,if_false,yq]
   ·simp only[zD,hh,Bool.false_and,false_eq_true,if_false,yq]
   ·rw[hh];simp[yq]
   ·rw[hh];simp[yq]
 intro i l
 induction l generalizing i with
 | nil =>
  intro vs x _ hx;cases vs with
  | nil=>exact ⟨[],rfl,.nil,by simp,rfl,rfl,by simp[hsT],by simp[esT]⟩
  | cons=>simp[decM] at hx
 | cons sh l ih =>
  intro vs x hl hx;cases l with
  | nil =>
   match vs with
   | []=>simp[decM] at hx
   | [v] =>
    simp only[decM] at hx;obtain ⟨a,k1,k2,k3,k4,k5,k6,k7⟩:=one (hl v (by simp)) hx (rest:=[]) (as:=[]) rfl;refine ⟨[a],k1,.cons k2 .nil,fun j a' b ha hb => ?_,by simpa[zR,hsT] using k4,by simpa[zD,esT] using k5,by simpa[hsT] using k6,by simpa[hsT,esT] using k7⟩;cases j with
    | zero=>simp[encAL] at ha hb;subst ha;subst hb;exact k3
    | succ j=>simp at ha
   | _ :: _ :: _=>simp[decM] at hx
  | cons sh' l =>
   cases vs with
   | nil=>simp[decM] at hx
   | cons v vs =>
    simp only[decM] at hx;split at hx
    ·rename_i a0 b0 h1 h2;cases hx;obtain ⟨as,m1,m2,m3,m4,m5,m6,m7⟩:=ih (fun v hv=>hl v (mem_cons_of_mem _ hv)) h2;obtain ⟨a,k1,k2,k3,k4,k5,k6,k7⟩:=one (hl v (by simp)) h1 m1;refine ⟨a :: as,k1,.cons k2 m2,fun j a' b ha hb => ?_,by simp only[map_cons,hsT];rw[k4,m4],by simp only[map_cons,esT];rw[k5,m5],fun s hs => ?_,fun s hs => ?_⟩
     ·simp only[encAL] at hb;cases j with
      | zero=>simp at ha hb;subst ha;subst hb;exact k3
      | succ j=>simp only[List.getElem?_cons_succ] at ha hb;exact m3 j a' b ha hb
     ·simp only[hsT] at hs;exact (mem_append.1 hs).elim (k6 s) (m6 s)
     ·simp only[hsT,esT] at hs ⊢;exact mem_append.2 ((mem_append.1 hs).imp (k7 s) (m7 s))
    ·cases hx
theorem zf6 {muts:List Nat}:∀ (i:Nat) (vs:List TV),qh (hsT muts i vs)=true->qh (esT muts i vs)=true∧∀ s∈esT muts i vs,s∈hsT muts i vs
 | _,[],_=>⟨rfl,by simp[esT]⟩
 | i,v :: vs,h=>by
  simp only[hsT] at h;obtain ⟨n1,n2⟩:=zax _ _ h;obtain ⟨k1,k2⟩:=zf6 (i+1) vs n1;have sub:∀ s∈yq (zx muts i && !muts.contains i) v,s∈yq (zx muts i) v:=(by cases zx muts i<;>cases muts.contains i<;>simp[yq]);refine ⟨?_,fun s hs => ?_⟩
  ·simp only[esT];have hs1:yq (zx muts i && !muts.contains i) v=[]∨∃ s,yq (zx muts i && !muts.contains i) v=[s]:=by
    unfold yq;split
    ·exact .inr ⟨_,rfl⟩
    ·exact .inl rfl
   rcases hs1 with e | ⟨s,e⟩
   ·rw[e];exact k1
   ·rw[e];simp only[cons_append,nil_append,qh,k1,Bool.and_true,not_eq_true',List.contains_eq_mem,decide_eq_false_iff_not];exact fun hm=>n2 s (sub s (by rw[e];simp)) (k2 s hm)
  ·simp only[hsT,esT] at hs ⊢;exact mem_append.2 ((mem_append.1 hs).imp (sub s) (k2 s))
theorem zah {a:Nat} {l:List Nat} (h:qh (a :: l)=true):a ∉ l∧qh l=true:=by simp only[qh,and_eq_true,not_eq_true',List.contains_eq_mem,decide_eq_false_iff_not] at h;exact h
theorem zfx:∀ (l:List Nat) (s:TSt),(∀ r∈l,∃ v t xs,look r .gone s.hp=.row v t xs)->qh l=true->(s.push (zal l)).toA=s.toA.dropL l
 | [],s,_,_=>rfl
 | r :: l,s,h,hn=>by
  obtain ⟨n1,n2⟩:=zah hn;obtain ⟨v,t,xs,h0⟩:=h r mem_cons_self;simp only[zal,ASt.dropL];rw[← yt,zfx l _ (fun r' hr' => ?_) n2,toA_gone h0]
  ·rfl
  ·obtain ⟨v',t',xs',h1⟩:=h r' (mem_cons_of_mem _ hr');refine ⟨v',t',xs', ?_⟩;simp only[TSt.push,cons_append,nil_append,zj];rw[if_neg (by rintro rfl;exact n1 hr'),h1]
theorem zfQ:∀ (l:List Nat) (h:THp) (r:Nat),r ∉ l->look r .gone (zal l++h)=look r .gone h
 | [],h,r,_=>rfl
 | a :: l,h,r,hn=>by
  simp only[zal,append_assoc,cons_append,nil_append];rw[zfQ l _ r (fun hm=>hn (mem_cons_of_mem _ hm)),zj,if_neg (by rintro rfl;exact hn mem_cons_self)]
theorem drop_set {st:ASt} {r s0 z:Nat} {es:List (List AV)} (hne:s0≠r):(st.setH s0 (some (.arr z es))).drop r=(st.drop r).setH s0 (some (.arr z es)):=by
 simp only[ASt.drop,ASt.setH,ASt.scrub];congr 1;funext k;simp only[upd];by_cases h1:k=r
 ·subst h1;rw[if_pos rfl,if_neg (Ne.symm hne),if_pos rfl]
 ·rw[if_neg h1,if_neg h1];by_cases h2:k=s0
  ·rw[if_pos h2,if_pos h2];rfl
  ·rw[if_neg h2,if_neg h2]
theorem zaM:∀ (l:List Nat) {st:ASt} {s0 z:Nat} {es:List (List AV)},s0 ∉ l->(st.setH s0 (some (.arr z es))).dropL l=(st.dropL l).setH s0 (some (.arr z es))
 | [],_,_,_,_,_=>rfl
 | r :: l,st,s0,z,es,hn=>by
  simp only[ASt.dropL];rw[drop_set (by rintro rfl;exact hn mem_cons_self),zaM l fun hm=>hn (mem_cons_of_mem _ hm)]
theorem setH_setH (st:ASt) (s:Nat) (a b:Option Blk):(st.setH s a).setH s b=st.setH s b:=by
 simp only[ASt.setH];congr 1;funext k;simp only[upd]
 split<;>rfl
theorem push_eat {s0:Nat} {rest:List Nat} {v n:Nat} {t t':Ty} {xs:List t.den} {ys:List t'.den} (h0:look s0 .gone s.hp=.row v t xs) (hf:jm s0 (.row n .int []) s=true) (hn:qh (s0 :: rest)=true)
  (hr:∀ r∈rest,∃ v t xs,look r .gone s.hp=.row v t xs):(s.push (zal rest++[(s0,.row n t' ys)])).toA=(s.toA.dropL (s0 :: rest)).setH s0 (some (.arr t'.z (ys.map t'.cells))):=by
 obtain ⟨n1,n2⟩:=zah hn;rw[← yt,zfx rest _ (fun r hm => ?_) n2,toA_app h0 hf,zaM rest n1]
 ·simp only[ASt.dropL,ASt.drop];rw[← zaM rest n1,← zaM rest n1,setH_setH]
 ·obtain ⟨v',t',xs',h1⟩:=hr r hm;refine ⟨v',t',xs', ?_⟩;simp only[TSt.push,cons_append,nil_append,zj];rw[if_neg (by rintro rfl;exact n1 hm),h1]
theorem finM_ok {muts:List Nat} {args:List TV} {f:Nat} {frz:Bool} {as:List AV} {sh:Sh} {y:sh.den} (hm:muts.isEmpty=false) (hl:∀ v∈args,lv s.hp v=v)
  (h1:zK s.toA.hp muts 0 (args.map (av s.hp))=some as) (h2:zR muts 0 (args.map (av s.hp))=hsT muts 0 args) (h3:zD muts 0 (args.map (av s.hp))=esT muts 0 args) (h4:∀ r∈hsT muts 0 args,∃ v t xs,look r .gone s.hp=.row v t xs)
  (hn:qh (hsT muts 0 args)=true) (hx:zdo (esT muts 0 args)=true) (hret:retK S f as (yV muts) sh y) (h:finM s muts args sh y k=some r) :
  ∃ v hs a st1,k v hs=some r∧zaq (za S) frz muts f (args.map (av s.hp)) d s.toA a st1∧∀ dst:Option Nat,st1.putO dst a=((s.push hs).putO dst v).toA:=by
 have hset:∀ r0:AV,settle frz (if muts.isEmpty then AV.refsL (args.map (av s.hp)) else []) r0 s.toA=some s.toA:=(by intro r0;rw[hm];simp only[false_eq_true,if_false,settle,or_true,if_true])
 obtain ⟨e1,e2⟩:=zf6 0 args hn;unfold finM at h;split at h
 ·rename_i i hk he;split at h
  ·rename_i s0 v0 ha;split at h
   ·rename_i v t xs hq;split at h
    ·rename_i t' ys;split at h
     ·rename_i ys' hc;obtain ⟨rfl,rfl⟩:=zN hc;obtain ⟨hlen,h⟩:=qy h;have hlen:=of_decide_eq_true hlen;rw[hk] at hret;have hret:(za S).ret f as (.tup []) [(i,List.map t'.cells ys')]:=hret;have hav:(args.map (av s.hp))[i]? = some (.lsl s0 t'.z 0 xs.length):=by rw[getElem?_map,ha];simp only[map_some,zcZ hq]
      have e:=wC (s:=s) (d:=s0) (b:=.row v t' ys') (.row hq hlen) (fun hg=>by rw[hq] at hg;cases hg);refine ⟨_,_,.tup [],(s.push [(s0,.row v t' ys')]).toA,h,⟨as,.tup [],[(i,List.map t'.cells ys')],s.toA,(s.push [(s0,.row v t' ys')]).toA,h1,by rw[h2];exact hn,hret,hset _,⟨by rw[h3];exact hx,by rw[hk];rfl, ?_⟩, ?_⟩,fun dst => ?_⟩
      ·rw[h3,he];simp only[ASt.dropL,yG,hav,z8,hq,blk,length_map];rw[if_pos hlen,e];simp only[blk]
      ·rw[h3,he];rfl
      ·rw[qS];rfl
     ·cases h
    ·cases h
   ·cases h
  ·cases h
 ·rename_i s0 rest hk he;split at h
  ·rename_i hc;obtain ⟨hc1,hc2⟩:=and_eq_true_iff.1 hc;rw[he] at e1 e2;obtain ⟨v,t,xs,hq⟩:=h4 s0 (e2 s0 mem_cons_self);have hrest:∀ r∈rest,∃ v t xs,look r .gone s.hp=.row v t xs:=fun r hr=>h4 r (e2 r (mem_cons_of_mem _ hr));have hn1:=(zah e1).1;rw[hk] at hret;have lk:∀ (t':Ty) (ys:List t'.den),look s0 .gone ((zal rest++[(s0,TB.row s.ctr t' ys)])++s.hp)=.row s.ctr t' ys:=fun t' ys=>(by rw[append_assoc,zfQ rest _ _ hn1];simp only[cons_append,nil_append,zj,if_true]);have gone:(s.toA.dropL (s0 :: rest)).hp s0=none:=zdX _ mem_cons_self
   have fin:∀ (t':Ty) (ys:List t'.den) (r0 a:AV) (v:TV),(za S).ret f as r0 []->impE (s0 :: rest) d r0 (s.toA.dropL (s0 :: rest))=some (a,(s.toA.dropL (s0 :: rest)).setH s0 (some (.arr t'.z (ys.map t'.cells)))) ->
     Av ((zal rest++[(s0,TB.row s.ctr t' ys)])++s.hp) v=a->k v (zal rest++[(s0,TB.row s.ctr t' ys)])=some r ->
     ∃ v hs a st1,k v hs=some r∧zaq (za S) frz muts f (args.map (av s.hp)) d s.toA a st1∧∀ dst:Option Nat,st1.putO dst a=((s.push hs).putO dst v).toA:=by
    intro t' ys r0 a v hret himp hav h;have e:=push_eat (t':=t') (ys:=ys) hq hc1 e1 hrest;refine ⟨v,_,a,_,h,⟨as,r0,[],s.toA,s.toA.dropL (s0 :: rest),h1,by rw[h2];exact hn,hret,hset _,⟨by rw[h3];exact hx,by rw[hk];rfl,by rw[h3,he];rfl⟩,by rw[h3,he];exact himp⟩,fun dst => ?_⟩;rw[qS,e];rw[show Av (s.push (zal rest++[(s0,TB.row s.ctr t' ys)])).hp v=a from hav]
   split at h
   ·rename_i t' ys;refine fin t' ys _ (.lsl s0 t'.z 0 ys.length) _ hret ?_ ?_ h
    ·simp only[encA,impE,gone,length_map]
    ·rw[qA rfl,A1];simp only[lv1,lk,beq_refl,av1]
   ·rename_i t' sh2 l ys;split at h
    ·rename_i hall;obtain ⟨m1,m2,m3⟩:=zib ((zal rest++[(s0,TB.row s.ctr t' ys.1)])++s.hp) (sh2 :: l) ys.2 hall;refine fin t' ys.1 _ (.tup (.lsl s0 t'.z 0 (List.length ys.1) :: encAL (sh2 :: l) ys.2)) _ hret ?_ ?_ h
     ·simp only[encA,encAL,impE,gone,length_map,m3,if_true]
     ·have l0:zG ((zal rest++[(s0,TB.row s.ctr t' ys.1)])++s.hp) (.lw s0 s.ctr)=true:=(by simp only[zG,zd,lk,beq_refl]);have a0:A2 ((zal rest++[(s0,TB.row s.ctr t' ys.1)])++s.hp) (.lw s0 s.ctr)=.lsl s0 t'.z 0 (List.length ys.1):=(by rw[jt rfl,A1];simp only[lv1,lk,beq_refl,av1]);rw[zbp,if_pos (all_eq_true.2 fun y hy => ?_),map_cons,a0,m2];rcases mem_cons.1 hy with rfl | hy
      ·exact l0
      ·exact m1 y hy
    ·cases h
   ·cases h
  ·cases h
 ·cases h
theorem eqN_ok:∀ {a b:List Nat},eqN a b=true->a=b
 | [],[],_=>rfl
 | [],_ :: _,h=>by cases h
 | _ :: _,[],h=>by cases h
 | a :: r,b :: l,h=>by
  simp only[eqN,and_eq_true] at h;rw[zH.1 h.1,eqN_ok h.2]
theorem zih {frz:Bool} {m:Nat} {ms:List Nat} {f:Nat} {args:List AOpd}:∀ {C:List CSpec},qF S C->zjb C (m :: ms) f (args.map s.ev) s k=some r->∃ v hs,k v hs=some r∧zW S q (.call frz (m :: ms) f args) d s v hs
 | [],_,h=>by cases h
 | c :: C,hC,h=>by
  have rest:zjb C (m :: ms) f (args.map s.ev) s k=some r->∃ v hs,k v hs=some r∧zW S q (.call frz (m :: ms) f args) d s v hs:=zih fun c hc=>hC c (mem_cons_of_mem _ hc);unfold zjb at h;split at h
  ·exact rest h
  ·rename_i hb;obtain ⟨hb,hmu⟩:=and_eq_true_iff.1 hb;rw[zH] at hb;have hmu:=eqN_ok hmu;split at h
   ·exact rest h
   ·rename_i x hx;split at h
    ·cases h
    ·rename_i hcond;obtain ⟨hn,hfx⟩:=and_eq_true_iff.1 hcond;have hl:∀ v∈args.map s.ev,lv s.hp v=v:=fun v hv=>by obtain ⟨y,_,rfl⟩:=mem_map.1 hv;exact yZ s y
     obtain ⟨as,k1,k2,k3,k4,k5,k6,k7⟩:=decM_ok (muts:=m :: ms) rfl hl hx;have fin:∀ y,c.fn x=some y->finM s (m :: ms) (args.map s.ev) c.res y k=some r->∃ v hs,k v hs=some r∧zW S q (.call frz (m :: ms) f args) d s v hs:=by
      intro y hy h;have hret:retK S f as (yV (m :: ms)) c.res y:=(by have h0:=hC c mem_cons_self x y hy;rw[hmu,hb] at h0;exact retK_wk k2 k3 _ _ _ h0);obtain ⟨v,hs,a,st1,q1,q2,q3⟩:=finM_ok (S:=S) (frz:=frz) (d:=d) rfl hl k1 k4 k5 k6 hn hfx hret h;have e:(args.map s.ev).map (av s.hp)=args.map s.toA.ev:=by rw[map_map];exact map_congr_left fun y _=>(zI s y).symm
      rw[e] at q2;refine ⟨v,hs,q1,[],a,st1,.inl rfl, ?_,fun dst=>.inl (q3 dst)⟩;simp only[qX];rw[if_neg (by simp)];exact q2
     split at h
     ·split at h
      ·rename_i y hy;exact fin y hy h
      ·cases h
     ·obtain ⟨y,hy,h⟩:=yi h;exact fin y hy h
theorem zby {hp:Nat->Option Blk}:∀ (i:Nat) (l as:List AV),(∀ x∈l,x.refs=[])->zK hp [] i l=some as->zK hp [3000] i l=some as
 | _,[],as,_,h=>h
 | i,x :: r,as,hr,h=>by
  have hh:zx [] i=false:=by simp[zx]
  simp only[zK,zg3,hh,false_eq_true,if_false,isEmpty_nil,List.isEmpty_cons,if_true] at h ⊢;split at h
  ·rename_i y ys h1 h2;have hx:=hr x mem_cons_self;rw[zfn hx h1] at h;rw[zby (i+1) r ys (fun z hz=>hr z (mem_cons_of_mem _ hz)) h2];simp only[hx,isEmpty_nil,if_true];exact h
  ·cases h
theorem callR_new {M:Rets} {frz:Bool} {f:Nat} {args:List AV} {st st1:ASt} {v:AV} (hr:∀ x∈args,x.refs=[]) (h:zaq M frz [] f args d st v st1):zaq M frz [3000] f args d st v st1:=by obtain ⟨args',r,outs,s1,s2,h1,_,h3,h4,⟨_,h5,h6⟩,h7⟩:=h;have ho:outs=[]:=List.map_eq_nil_iff.1 h5;subst ho;have hn:AV.refsL args=[]:=eq_nil_iff_forall_not_mem.2 fun s hs=>(by obtain ⟨x,hx,hs⟩:=ze.1 hs;rw[hr x hx] at hs;cases hs);simp only[isEmpty_nil,if_true,hn,settle,or_true,Option.some.injEq] at h4;subst h4;rw[qR] at h6 h7;simp only[yG,ASt.dropL,Option.some.injEq] at h6;subst h6;exact callR3.2 ⟨args',r,zby _ _ _ hr h1,h3,h7⟩
theorem callN_ok {frz:Bool} {m:Nat} {ms:List Nat} {f:Nat} {args:List AOpd} (hC:qF S C) (hb:newB m ms (args.map s.ev)=true) (h:zeQ C false false f (fun s=>args.map s.ev) d s k=some r) :
  ∃ v hs,k v hs=some r∧zW S q (.call frz (m :: ms) f args) d s v hs:=by
 simp only[newB,and_eq_true,zH,isEmpty_iff] at hb;obtain ⟨⟨rfl,rfl⟩,hrf⟩:=hb;refine zbY (q2:=q) (frz:=frz) (fun h=>by cases h) hC (fun s' hs' => ?_) h;obtain rfl:s'=s:=by
  rcases hs' with hs' | ⟨hs',_⟩
  ·exact hs'
  ·cases hs'
 have hl:∀ v∈args.map s'.ev,lv s'.hp v=v:=fun v hv=>by obtain ⟨y,hy,rfl⟩:=mem_map.1 hv;exact yZ s' y
 refine ⟨hl,fun a st1 hok => ?_⟩;have e:(args.map s'.ev).map (av s'.hp)=args.map s'.toA.ev:=by rw[map_map];exact map_congr_left fun y _=>(zI s' y).symm
 have hr:∀ x∈args.map s'.toA.ev,x.refs=[]:=fun x hx=>(by rw[← e] at hx;obtain ⟨v0,hv0,rfl⟩:=mem_map.1 hx;exact zee (hl v0 hv0) (flatMap_eq_nil_iff.1 hrf v0 hv0));unfold zbH at hok;rw[e,if_neg (by simp)] at hok;simp only[qX];rw[if_neg (by simp)];exact callR_new hr hok
theorem zfi (hC:qF S C) {o:AOp} (h:top C q ty o d s k=some r):∃ v hs,k v hs=some r∧zW S q o d s v hs:=by
 cases o with
 | mov x=>exact top_mov h
 | box x=>exact top_box h
 | alloc z=>exact top_alloc h
 | build z p=>exact top_build h
 | bslice f z zz l p=>exact ziB h
 | lit z zz l p=>exact top_lit h
 | load n x=>exact top_load h
 | store z a x=>exact top_store h
 | chk x=>exact top_chk h
 | bin kd op x y=>exact top_bin h
 | eqa n sh x y=>exact top_eqa h
 | eqn sl n x=>exact top_eqn h
 | un op x=>exact top_un h
 | cvi kd x=>exact top_cvi h
 | cvs x=>exact top_cvs h
 | ifc t x=>exact top_ifc h
 | mkfn f c=>exact top_mkfn h
 | mksl z zz l c=>exact top_mksl h
 | slc z x lo hi=>exact top_slc h
 | fa off x=>exact top_fa h
 | fld off n x=>exact top_fld h
 | ia z x i=>exact top_ia h
 | ix x i=>exact top_ix h
 | ext x i=>exact top_ext h
 | len st x=>exact top_len h
 | app z x y=>exact top_app h
 | pick c a b=>exact top_pick h
 | max2 x y=>exact top_max2 h
 | call frz muts f args =>
  simp only[top] at h;split at h
  ·refine zbY (frz:=frz) (fun _=>rfl) hC (fun s' _=>⟨fun v hv => ?_,fun a st1 hok => ?_⟩) h
   ·obtain ⟨y,hy,rfl⟩:=mem_map.1 hv;exact yZ s' y
   ·have e:(args.map s'.ev).map (av s'.hp)=args.map s'.toA.ev:=by rw[map_map];exact map_congr_left fun y _=>(zI s' y).symm
    unfold zbH at hok;rw[e] at hok;simp only[qX];split at hok
    ·rename_i hq;rw[if_pos ⟨hq,True.intro⟩];exact hok
    ·rename_i hq;rw[if_neg (fun hh=>hq hh.1)];exact hok
  ·split at h
   ·rename_i m ms hb;exact callN_ok hC hb h
   ·exact zih hC h
 | calld frz x args =>
  simp only[top] at h;split at h
  ·rename_i f caps hx;obtain ⟨e1,e2⟩:=jW hx;refine zbY (frz:=frz) (fun _=>rfl) hC (fun s' hs' => ?_) h;obtain rfl:s'=s:=by
    rcases hs' with hs' | ⟨hs',_⟩
    ·exact hs'
    ·cases hs'
   refine ⟨fun v hv => ?_,fun a st1 hok => ?_⟩
   ·rw[hx] at hv;simp only[zig] at hv;rcases mem_append.1 hv with hv | hv
    ·obtain ⟨y,hy,rfl⟩:=mem_map.1 hv;exact yZ s' y
    ·exact zdO (lv_fn e2 v hv)
   ·have e:(args.map s'.ev++zig (s'.ev x)).map (av s'.hp)=args.map s'.toA.ev++caps.map (av2 s'.hp):=by
     rw[hx,zig,map_append,map_map];congr 1
     ·exact map_congr_left fun y _=>(zI s' y).symm
     ·refine map_congr_left fun y hy => ?_;have:=lv_fn e2 y hy;cases y<;>first | rfl | simp[lv2,lv1] at this
    unfold zbH at hok;rw[e] at hok;simp only[qX,e1];rw[show av s'.hp (.fn f caps)=.fn f (caps.map (av2 s'.hp)) from rfl];simp only;split at hok
    ·rename_i hq;rw[if_pos hq];exact hok
    ·rename_i hq;rw[if_neg hq];exact hok
  ·cases h
theorem zeU {b:Bool} {x y:Option α} (h:br b x y=some r):(b=true∧x=some r)∨(b=false∧y=some r):=by
 cases b with
 | true=>exact .inl ⟨rfl,h⟩
 | false=>exact .inr ⟨rfl,h⟩
def Over (s s':TSt):Prop:=(∃ l,s'.fr=l++s.fr)∧∃ l,s'.hp=l++s.hp
theorem Over.refl (s:TSt):Over s s:=⟨⟨[],rfl⟩,⟨[],rfl⟩⟩
theorem Over.trans {a b c:TSt} (h:Over a b) (h':Over b c):Over a c:=by obtain ⟨⟨l1,e1⟩,l2,e2⟩:=h;obtain ⟨⟨l3,e3⟩,l4,e4⟩:=h';exact ⟨⟨l3++l1,by rw[e3,e1,append_assoc]⟩,l4++l2,by rw[e4,e2,append_assoc]⟩
theorem Over.put (s:TSt) (d:Option Nat) (v:TV):Over s (s.putO d v):=by
 cases d with
 | none=>exact .refl s
 | some d=>exact ⟨⟨[(d,v)],rfl⟩,[],rfl⟩
theorem Over.push (s:TSt) (hs:THp):Over s (s.push hs):=⟨⟨[],rfl⟩,hs,rfl⟩
theorem zif {ops:List AOper} {st st1 st2:ASt} (h:Cv S q st st1) (hr:OpsR (za S) q ops st1 st2):OpsR (za S) q ops st st2:=by
 rcases h with rfl | ⟨hq,h⟩
 ·exact hr
 ·exact .cv hq h hr
theorem qZ (hC:qF S C):∀ (ops:List AOper) (tys:List Ty) (s:TSt) {k:TSt->Option α},ziA C q ops tys s k=some r->∃ s',k s'=some r∧OpsR (za S) q ops s.toA s'.toA∧Over s s'
 | [],tys,s,k,h=>⟨s,h,.nil _,.refl s⟩
 | ⟨d,op,none,af⟩ :: ops,tys,s,k,h=>by
  simp only[ziA] at h;obtain ⟨v,hs,h1,h0,a,st1,k1,k2,k3⟩:=zfi (S:=S) hC h;obtain ⟨s',m1,m2,m3⟩:=qZ hC ops tys.tail (s.done d v hs) h1;exact ⟨s',m1,zif k1 (.cons (.inl ⟨rfl,a,st1,k2,rfl⟩) (zif (k3 d) m2)),(Over.push s hs).trans ((Over.put _ _ _).trans m3)⟩
 | ⟨d,op,some (t,want),af⟩ :: ops,tys,s,k,h=>by
  simp only[ziA] at h;have same:∀ b,s.ev (.t t)=.b b->(s.put t (.b b)).toA=s.toA:=fun b hb=>by
   have e:s.toA.fr t=.v (.bool b):=(by have:=zI s (.t t);rw[hb] at this;exact this);have:=qS s (some t) (.b b);simp only[TSt.putO,ASt.putO,ASt.put] at this;rw[this,Av_b];show (⟨upd s.toA.fr t (.v (.bool b)),s.toA.hp⟩:ASt)=⟨s.toA.fr,s.toA.hp⟩;congr 1;funext j;simp only[upd];split
   ·rename_i hj;subst hj;exact e.symm
   ·rfl
  have go:∀ b,s.ev (.t t)=.b b->b=want->top C q (tys.headD .int) op (d.getD 0) (s.put t (.b b)) (fun v hs=>ziA C q ops tys.tail ((s.put t (.b b)).done d v hs) k)=some r ->
    ∃ s',k s'=some r∧OpsR (za S) q (⟨d,op,some (t,want),af⟩ :: ops) s.toA s'.toA∧Over s s':=by
   intro b hb hw h;obtain ⟨v,hs,h1,h0,a,st1,k1,k2,k3⟩:=zfi (S:=S) hC h;obtain ⟨s',m1,m2,m3⟩:=qZ hC ops tys.tail ((s.put t (.b b)).done d v hs) h1;refine ⟨s',m1, ?_,(Over.put s (some t) (.b b)).trans ((Over.push _ hs).trans ((Over.put _ _ _).trans m3))⟩;rw[same b hb] at k1;refine zif k1 (.cons (.inl ⟨?_,a,st1,k2,rfl⟩) (zif (k3 d) m2));have e:((s.put t (.b b)).push h0).toA.fr t=.v (.bool b):=(by rw[zb6];simp only[TSt.push,TSt.put,zj,if_true,Av_b]);simp only[zbL,e];rw[hw];simp
  have by_:∀ b,s.ev (.t t)=.b b->b = !want->ziA C q ops tys.tail ((s.put t (.b b)).putO d .ud) k=some r ->
    ∃ s',k s'=some r∧OpsR (za S) q (⟨d,op,some (t,want),af⟩ :: ops) s.toA s'.toA∧Over s s':=by
   intro b hb hw h;obtain ⟨s',m1,m2,m3⟩:=qZ hC ops tys.tail _ h;refine ⟨s',m1,.cons (.inr ⟨?_,rfl⟩) ?_,(Over.put s (some t) (.b b)).trans ((Over.put _ _ _).trans m3)⟩
   ·have e:s.toA.fr t=.v (.bool b):=(by have:=zI s (.t t);rw[hb] at this;exact this);simp only[zbL,e];rw[hw];cases want<;>rfl
   ·rw[qS,same b hb] at m2;exact m2
  split at h
  ·rename_i hu;obtain ⟨s',m1,m2,m3⟩:=qZ hC ops tys.tail _ h;refine ⟨s',m1,.cons (.inr ⟨?_,rfl⟩) ?_,(Over.put _ _ _).trans m3⟩
   ·have e:s.toA.fr t=Ab.ud:=(by have:=zI s (.t t);rw[hu] at this;exact this);simp only[zbL,e,Ab.ud]
   ·rw[qS] at m2;exact m2
  ·rename_i x hx;rcases zeU h with ⟨rfl,h⟩ | ⟨rfl,h⟩
   ·cases want with
    | true=>exact go true hx rfl h
    | false=>exact by_ true hx rfl h
   ·cases want with
    | true=>exact by_ false hx rfl h
    | false=>exact go false hx rfl h
  ·cases h
end
end
section
open Go Go.RowKit
section
variable {S:Seat} {α:Type} {C:List CSpec}
theorem wD {x:TV} (h:ok1 (qb [] x)=true):qb [] x=x∧rf1 x=[]:=by cases x<;>first | exact ⟨rfl,rfl⟩ | (simp[qb,ok1,look] at h;done)
theorem decW2 {N:Nat->Prop} {h:THp} {sh:Sh} {v:TV} {x:sh.den} (hl:lv2 h v=v) (hd:dec [] sh v=some x) (h':THp):lv2 h' (enc sh x)=enc sh x∧Wk N (av2 h v) (av2 h' (enc sh x)):=by
 cases sh with
 | int=>obtain rfl:=zT hd;exact ⟨rfl,.rfl _⟩
 | u8=>obtain rfl:=zhc hd;exact ⟨rfl,.rfl _⟩
 | bool=>obtain rfl:=zcH hd;exact ⟨rfl,.rfl _⟩
 | str=>obtain rfl:=yl hd;exact ⟨rfl,.rfl _⟩
 | err=>obtain rfl:=zhd hd;exact ⟨rfl,.rfl _⟩
 | unit =>
  simp only[dec] at hd;split at hd
  ·simp[lv2,lv1] at hl
  ·cases hd
 | sl t =>simp only[dec] at hd;obtain ⟨k1,k2,k3,k4,k5,k6⟩:=wv hd h;obtain ⟨s1,s2⟩:=wD k6;rw[s1] at k1 k4;rw[wQ k4];exact ⟨rfl,k1.wk⟩
 | ns t =>simp only[dec] at hd;obtain ⟨k1,k3,k4,k5,k6⟩:=zie hd h;obtain ⟨s1,s2⟩:=wD k6;rw[s1] at k1 k4;rw[wQ k4,k1];exact ⟨by cases x<;>rfl,by cases x<;>exact .rfl _⟩
 | st t =>
  simp only[dec] at hd;split at hd
  ·rename_i cs;have hu:=yD hd h;have e:cs.map (qb [])=cs:=(by have:∀ y∈cs,qb [] y=y:=fun y hy=>(wD (hu.flat _ (mem_map.2 ⟨y,hy,rfl⟩)).2.2.2).1;rw[map_congr_left this,map_id']);have hpn:=hu.pn;rw[e] at hpn;obtain ⟨t1,t2⟩:=zbr t x h';refine ⟨mk_ag fun y hy=>jP (t2 y hy).1, ?_⟩;simp only[enc,av2,t1];exact .agg hpn.1 fun i x y hx hy=>(hpn.2 i x y hx hy).wk
  ·cases hd
 | bx t =>
  simp only[dec] at hd;split at hd
  ·obtain ⟨rfl,rfl⟩:=wP hd;exact ⟨rfl,.rfl _⟩
  ·simp[look] at hd
  ·cases hd
 | own t=>simp[dec] at hd
 | fnc id caps =>
  simp only[dec] at hd;split at hd
  ·simp[lv2,lv1] at hl
  ·cases hd
 | tp l =>
  simp only[dec] at hd;split at hd
  ·simp[lv2,lv1] at hl
  ·cases hd
theorem decWL {N:Nat->Prop} {h:THp} (h':THp):∀ {l:List Sh} {vs:List TV} {x:Sh.denL l},(∀ v∈vs,lv2 h v=v)->wN [] l vs=some x ->
  (∀ y∈wd l x,lv2 h' y=y)∧vs.length=(wd l x).length∧∀ (i:Nat) (a b:AV),(vs.map (av2 h))[i]? = some a->((wd l x).map (av2 h'))[i]? = some b->Wk N a b
 | [],[],x,_,_=>⟨by simp[wd],rfl,by simp[wd]⟩
 | [],_ :: _,x,_,hd=>by simp[wN] at hd
 | [sh],[],x,_,hd=>by simp[wN] at hd
 | [sh],[v],x,hl,hd=>by
  simp only[wN] at hd;obtain ⟨h1,h2⟩:=decW2 (N:=N) (hl v (by simp)) hd h';refine ⟨by simpa[wd] using h1,rfl,fun i a b ha hb => ?_⟩;cases i with
  | zero=>simp[wd] at ha hb;subst ha;subst hb;exact h2
  | succ i=>simp at ha
 | [sh],_ :: _ :: _,x,_,hd=>by simp[wN] at hd
 | sh :: sh' :: r,[],x,_,hd=>by simp[wN] at hd
 | sh :: sh' :: r,v :: vs,x,hl,hd=>by
  simp only[wN] at hd;split at hd
  ·rename_i a b ha hb;cases hd;obtain ⟨h1,h2⟩:=decW2 (N:=N) (hl v (by simp)) ha h';obtain ⟨h3,h4,h5⟩:=decWL (N:=N) h' (fun v hv=>hl v (mem_cons_of_mem _ hv)) hb;refine ⟨fun y hy => ?_,by simp only[wd,length_cons,h4],fun i a b ha hb => ?_⟩
   ·simp only[wd] at hy;rcases mem_cons.1 hy with rfl | hy
    ·exact h1
    ·exact h3 y hy
   ·simp only[wd] at hb;cases i with
    | zero=>simp at ha hb;subst ha;subst hb;exact h2
    | succ i=>simp only[map_cons,List.getElem?_cons_succ] at ha hb;exact h5 i a b ha hb
  ·cases hd
theorem decW {N:Nat->Prop} {h:THp} {sh:Sh} {v:TV} {x:sh.den} (hl:lv h v=v) (hd:dec [] sh v=some x) (h':THp):Wk N (av h v) (Av h' (enc sh x)):=by
 by_cases h2:lv2 h v=v
 ·obtain ⟨k1,k2⟩:=decW2 (N:=N) h2 hd h';have e1:av h v=av2 h v:=by cases v<;>first | rfl | simp[lv2,lv1] at h2
  have e2:Av h' (enc sh x)=av2 h' (enc sh x):=by
   rw[jU (zdO k1)];cases he:enc sh x with
   | tp=>rw[he] at k1;simp[lv2,lv1] at k1
   | fn=>rw[he] at k1;simp[lv2,lv1] at k1
   | _=>rfl
  rw[e1,e2];exact k2
 ·cases v with
  | tp vs =>
   cases sh with
   | tp l =>simp only[dec] at hd;obtain ⟨k1,k2,k3⟩:=decWL (N:=N) h' (lv_tp hl) hd;have:lv h' (.tp (wd l x))=.tp (wd l x):=(by simp only[lv,all_eq_true.2 fun y hy=>(by rw[← k1 y hy];exact j9 _ _:zG h' y=true)];rw[map_congr_left k1,map_id']);simp only[enc];rw[jU this];exact .tup (by simp[k2]) k3
   | unit =>
    simp only[dec] at hd;split at hd
    ·rename_i he;cases he;exact .rfl _
    ·cases hd
   | _=>simp[dec,dI,dU,dB,dS,dE,qb,dSl,dNs] at hd
  | fn f vs =>
   cases sh with
   | fnc id caps =>
    simp only[dec] at hd;split at hd
    ·rename_i hb;rw[zH] at hb;subst hb;obtain ⟨k1,k2,k3⟩:=decWL (N:=N) h' (lv_fn hl) hd;have:lv h' (.fn id (wd caps x))=.fn id (wd caps x):=(by simp only[lv,all_eq_true.2 fun y hy=>(by rw[← k1 y hy];exact j9 _ _:zG h' y=true)];rw[map_congr_left k1,map_id']);simp only[enc];rw[jU this];exact .fn (by simp[k2]) k3
    ·cases hd
   | _=>simp[dec,dI,dU,dB,dS,dE,qb,dSl,dNs] at hd
  | ag cs=>exact absurd hl h2
  | _=>exact absurd hl h2
theorem zaA {k:Nat}:∀ {l:List Nat},memN k l=true↔k∈l
 | []=>by simp[memN]
 | a :: r=>by
  simp only[memN];cases hb:Nat.beq a k with
  | true=>rw[zH] at hb;subst hb;simp
  | false =>
   have:a≠k:=fun e=>by subst e;simp[beq_refl] at hb
   simp only[zaA (l:=r),mem_cons];exact ⟨.inr,fun h=>h.resolve_left (Ne.symm this)⟩
theorem jy {β:Type} {k:Nat} {d:β}:∀ {l m:List (Nat×β)},k ∉ l.map (·.1)->look k d (l++m)=look k d m
 | [],_,_=>rfl
 | (a,x) :: r,m,h=>by
  simp only[map_cons,mem_cons,not_or] at h;rw[cons_append,zj,if_neg (Ne.symm h.1)];exact jy h.2
theorem zgZ {β:Type} {k:Nat} {d v:β}:∀ {l m:List (Nat×β)},dis1 (l.map (·.1))=true->(k,v)∈l->look k d (l++m)=v
 | (a,x) :: r,m,hd,h=>by
  simp only[map_cons,dis1,and_eq_true,not_eq_true'] at hd;rw[cons_append,zj];rcases mem_cons.1 h with h | h
  ·cases h;rw[if_pos rfl]
  ·rw[if_neg]
   ·exact zgZ hd.2 h
   ·intro e;subst e;have:memN a (r.map (·.1))=true:=zaA.2 (mem_map.2 ⟨_,h,rfl⟩);rw[hd.1] at this;cases this
theorem zid {l m:List Nat} (h:dis1 (l++m)=true):dis1 l=true∧∀ k∈l,k ∉ m:=by
 induction l with
 | nil=>exact ⟨rfl,by simp⟩
 | cons a l ih =>
  simp only[cons_append,dis1,and_eq_true,not_eq_true'] at h;obtain ⟨h1,h2⟩:=ih h.2;have hm:a ∉ l++m:=fun hm=>by rw[zaA.2 hm] at h;cases h.1
  refine ⟨?_,fun k hk => ?_⟩
  ·simp only[dis1,and_eq_true,not_eq_true'];refine ⟨?_,h1⟩;cases hb:memN a l with
   | true=>exact absurd (mem_append.2 (.inl (zaA.1 hb))) hm
   | false=>rfl
  ·rcases mem_cons.1 hk with rfl | hk
   ·exact fun hh=>hm (mem_append.2 (.inr hh))
   ·exact h2 k hk
def OkRow (h H:THp) (n r:Nat) (v w:TV):Prop:=∃ (t:Ty) (y:List t.den),w=.lw r n∧(r,TB.row n t y)∈H∧pRow h r t v=some y
def OkF (h H:THp) (n:Nat) (v w:TV):Prop:=(∃ (sh:Sh) (y:sh.den),w=enc sh y∧dec [] sh v=some y)∨∃ r,OkRow h H n r v w
def OkB (s0:TSt) (h H:THp) (n r:Nat) (b:TB):Prop :=
 (∃ (t:Ty) (y:List t.den) (v:TV),b=.row n t y∧pRow h r t v=some y∧lv h v=v∧jm r (.row n .int []) s0=true)∨(∃ (v:Nat) (t:Ty) (y:List t.den),b=.row v t y∧look r .gone h=.row v t y) ∨
 (∃ cs vs,b=.var cs∧look r .gone h=.var vs∧cs.length=vs.length∧∀ (i:Nat) (c v:TV),cs[i]? = some c->vs[i]? = some v->OkF h H n (lv1 h v) c)
theorem OkF.mono {h H H':THp} {n:Nat} {v w:TV} (hs:∀ p∈H,p∈H') (ho:OkF h H n v w):OkF h H' n v w:=by
 rcases ho with ho | ⟨r,t,y,h1,h2,h3⟩
 ·exact .inl ho
 ·exact .inr ⟨r,t,y,h1,hs _ h2,h3⟩
theorem OkB.mono {s0:TSt} {h H H':THp} {n r:Nat} {b:TB} (hs:∀ p∈H,p∈H') (ho:OkB s0 h H n r b):OkB s0 h H' n r b:=by
 rcases ho with ho | ho | ⟨cs,vs,h1,h2,h3,h4⟩
 ·exact .inl ho
 ·exact .inr (.inl ho)
 ·exact .inr (.inr ⟨cs,vs,h1,h2,h3,fun i c v hc hv=>(h4 i c v hc hv).mono hs⟩)
structure OkM (s0 s:TSt) (n:Nat) (F:List (Nat×TV)) (H:THp):Prop where
 fr:∀ k w,(k,w)∈F->OkF s.hp H n (s.ev (.t k)) w
 hp:∀ r b,(r,b)∈H->OkB s0 s.hp H n r b
theorem iCKs_ok {s0:TSt} {h:THp} {n:Nat}:∀ {cs:List CK} {vs:List TV} {x:CK.denL cs},(ckH cs).all (fun s=>jm s (.row n .int []) s0)=true->(∀ v∈vs,lv h v=v)->pCKs h cs vs=some x ->
  (zgy n cs x).1.length=vs.length∧(zgy n cs x).2.map (·.1)=ckH cs∧(∀ (i:Nat) (c v:TV),(zgy n cs x).1[i]? = some c->vs[i]? = some v->OkF h (zgy n cs x).2 n v c)∧∀ r b,(r,b)∈(zgy n cs x).2->OkB s0 h [] n r b:=by
 have one:∀ (c:CK) (v:TV) (x:c.den),(ckH [c]).all (fun s=>jm s (.row n .int []) s0)=true->lv h v=v->pCK h c v=some x->OkF h (iCK n c x).2 n v (iCK n c x).1∧(∀ r b,(r,b)∈(iCK n c x).2->OkB s0 h [] n r b)∧(iCK n c x).2.map (·.1)=ckH [c]:=by
  intro c v x hf hl hp;cases c with
  | sh sh=>exact ⟨.inl ⟨sh,x,rfl,hp⟩,by simp[iCK],rfl⟩
  | row r t =>refine ⟨.inr ⟨r,t,x,rfl,by simp[iCK],hp⟩,fun r' b hm => ?_,rfl⟩;simp only[iCK,mem_singleton,Prod.mk.injEq] at hm;obtain ⟨rfl,rfl⟩:=hm;exact .inl ⟨t,x,v,rfl,hp,hl,by simpa[ckH] using hf⟩
 intro cs
 induction cs with
 | nil =>
  intro vs x _ _ hp;cases vs with
  | nil=>exact ⟨rfl,rfl,by simp[zgy],by simp[zgy]⟩
  | cons=>simp[pCKs] at hp
 | cons c cs ih =>
  intro vs x hf hl hp;have hsplit:(ckH [c]).all (fun s=>jm s (.row n .int []) s0)=true∧(ckH cs).all (fun s=>jm s (.row n .int []) s0)=true:=(by cases c<;>simp_all[ckH]);cases cs with
  | nil =>
   match vs with
   | []=>simp[pCKs] at hp
   | [v] =>
    simp only[pCKs] at hp;obtain ⟨h1,h2,h3⟩:=one c v x hsplit.1 (hl v (by simp)) hp;refine ⟨rfl,h3,fun i c' v' hc hv => ?_,h2⟩;cases i with
    | zero=>simp[zgy] at hc hv;subst hc;subst hv;exact h1
    | succ i=>simp at hv
   | _ :: _ :: _=>simp[pCKs] at hp
  | cons c' cs =>
   cases vs with
   | nil=>simp[pCKs] at hp
   | cons v vs =>
    simp only[pCKs] at hp;split at hp
    ·rename_i a b ha hb;cases hp;obtain ⟨h1,h2,h3⟩:=one c v a hsplit.1 (hl v (by simp)) ha;obtain ⟨k1,k2,k3,k4⟩:=ih hsplit.2 (fun v hv=>hl v (mem_cons_of_mem _ hv)) hb;refine ⟨by simp only[zgy,length_cons,k1], ?_,fun i e w he hw => ?_,fun r b' hm => ?_⟩
     ·simp only[zgy,map_append,h3,k2];cases c<;>rfl
     ·simp only[zgy] at he ⊢;cases i with
      | zero=>simp at he hw;subst he;subst hw;exact h1.mono fun p hp=>mem_append.2 (.inl hp)
      | succ i=>simp only[List.getElem?_cons_succ] at he hw;exact (k3 i e w he hw).mono fun p hp=>mem_append.2 (.inr hp)
     ·simp only[zgy] at hm;rcases mem_append.1 hm with hm | hm
      ·exact h2 r b' hm
      ·exact k4 r b' hm
    ·cases hp
theorem eqVer_ok {a b:Option Nat} (h:eqVer a b=true):∃ v,a=some v∧b=some v:=by cases a<;>cases b<;>simp[eqVer] at h;exact ⟨_,rfl,by rw[h]⟩
theorem lv1_lv (h:THp) (y:TV):lv h (lv1 h y)=lv1 h y:=by rw[zai (yJ h y),yK]
theorem iMK_ok {s0 s:TSt} {n:Nat} (m:MK) (x:m.den) (hf:okK s0 n m=true) (hp:pMK s0 s m=some x):OkM s0 s n (iMK n s0.hp m x).1 (iMK n s0.hp m x).2∧(iMK n s0.hp m x).1.map (·.1)=ksF [m]∧(iMK n s0.hp m x).2.map (·.1)=ksH [m]:=by
 cases m with
 | slot k sh=>exact ⟨⟨fun k' w hm=>by simp[iMK] at hm;obtain ⟨rfl,rfl⟩:=hm;exact .inl ⟨sh,x,rfl,hp⟩,fun r b hm=>by simp[iMK] at hm⟩,rfl,rfl⟩
 | row k r t =>
  refine ⟨⟨fun k' w hm => ?_,fun r' b hm => ?_⟩,rfl,rfl⟩
  ·simp only[iMK,mem_singleton,Prod.mk.injEq] at hm;obtain ⟨rfl,rfl⟩:=hm;exact .inr ⟨r,t,x,rfl,by simp[iMK],hp⟩
  ·simp only[iMK,mem_singleton,Prod.mk.injEq] at hm;obtain ⟨rfl,rfl⟩:=hm;exact .inl ⟨t,x,_,rfl,hp,yZ s _,hf⟩
 | rowH r t =>
  refine ⟨⟨fun k' w hm=>by simp[iMK] at hm,fun r' b hm => ?_⟩,rfl,rfl⟩;simp only[iMK,mem_singleton,Prod.mk.injEq] at hm;obtain ⟨rfl,rfl⟩:=hm;simp only[pMK] at hp;split at hp
  ·rename_i v t' xs hl he;obtain ⟨rfl,rfl⟩:=zN hp;obtain ⟨v',h1,h2⟩:=eqVer_ok he;simp only[verOf,hl,Option.some.injEq] at h2;subst h2;exact .inr (.inl ⟨v,t',x,by rw[h1];rfl,hl⟩)
  ·cases hp
 | var r cs =>
  simp only[pMK] at hp;split at hp
  ·rename_i vs hl;obtain ⟨k1,k2,k3,k4⟩:=iCKs_ok (n:=n) hf (fun v hv=>by obtain ⟨z,hz,rfl⟩:=mem_map.1 hv;exact lv1_lv _ z) hp;refine ⟨⟨fun k' w hm=>by simp[iMK] at hm,fun r' b hm => ?_⟩,rfl, ?_⟩
   ·simp only[iMK] at hm ⊢;rcases mem_cons.1 hm with hm | hm
    ·simp only[Prod.mk.injEq] at hm;obtain ⟨rfl,rfl⟩:=hm;refine .inr (.inr ⟨_,vs,rfl,hl,by simpa using k1,fun i c v hc hv => ?_⟩);exact (k3 i c (lv1 s.hp v) hc (by simp[hv])).mono fun p hp=>mem_cons_of_mem _ hp
    ·exact (k4 r' b hm).mono (by simp)
   ·simp only[iMK,map_cons,k2,ksH,List.append_nil]
  ·cases hp
theorem iMKs_ok {s0 s:TSt} {n:Nat}:∀ (ks:List MK) (x:MK.denL ks),ks.all (okK s0 n)=true->pMKs s0 s ks=some x->OkM s0 s n (zgx n s0.hp ks x).1 (zgx n s0.hp ks x).2∧(zgx n s0.hp ks x).1.map (·.1)=ksF ks∧(zgx n s0.hp ks x).2.map (·.1)=ksH ks:=by
 intro ks
 induction ks with
 | nil=>intro x _ _;exact ⟨⟨by simp[zgx],by simp[zgx]⟩,rfl,rfl⟩
 | cons m ks ih =>
  intro x hf hp;simp only[all_cons,and_eq_true] at hf;cases ks with
  | nil=>exact iMK_ok m x hf.1 hp
  | cons m' ks =>
   simp only[pMKs] at hp;split at hp
   ·rename_i a b ha hb;cases hp;obtain ⟨h1,h2,h3⟩:=iMK_ok (n:=n) m a hf.1 ha;obtain ⟨k1,k2,k3⟩:=ih b hf.2 hb;refine ⟨⟨fun k w hm => ?_,fun r b' hm => ?_⟩, ?_, ?_⟩
    ·simp only[zgx] at hm ⊢;rcases mem_append.1 hm with hm | hm
     ·exact (h1.fr k w hm).mono fun p hp=>mem_append.2 (.inl hp)
     ·exact (k1.fr k w hm).mono fun p hp=>mem_append.2 (.inr hp)
    ·simp only[zgx] at hm ⊢;rcases mem_append.1 hm with hm | hm
     ·exact (h1.hp r b' hm).mono fun p hp=>mem_append.2 (.inl hp)
     ·exact (k1.hp r b' hm).mono fun p hp=>mem_append.2 (.inr hp)
    ·simp only[zgx,map_append,h2,k2];cases m<;>rfl
    ·simp only[zgx,map_append,h3,k3];cases m<;>simp[ksH]
   ·cases hp
end
end
section
open Go Go.RowKit
section
variable {S:Seat} {α:Type} {C:List CSpec}
theorem lo_of {h h':THp} {y:TV} (hd:∀ r∈rf1 y,look r .gone h'=look r .gone h∨((∃ a,look r .gone h=.var a)∧∃ b,look r .gone h'=.var b)∨zd h' y=false):LO h h' y:=by
 cases y with
 | lw r v =>
  rcases hd r (by simp[rf1]) with e | ⟨⟨a,e1⟩,b,e2⟩ | e
  ·exact .inr ⟨by simp only[zd,e],by
    simp only[A1,lv1,e]
    repeat' split
    all_goals simp only[av1,e]⟩
  ·exact .inl (by simp only[zd,e2])
  ·exact .inl e
 | ls r v off len =>
  rcases hd r (by simp[rf1]) with e | ⟨⟨a,e1⟩,b,e2⟩ | e
  ·exact .inr ⟨by simp only[zd,e],by
    simp only[A1,lv1,e]
    repeat' split
    all_goals simp only[av1,e]⟩
  ·exact .inl (by simp only[zd,e2])
  ·exact .inl e
 | pe r v i off =>
  rcases hd r (by simp[rf1]) with e | ⟨⟨a,e1⟩,b,e2⟩ | e
  ·exact .inr ⟨by simp only[zd,e],by
    simp only[A1,lv1,e]
    repeat' split
    all_goals simp only[av1,e]⟩
  ·exact .inl (by simp only[zd,e2])
  ·exact .inl e
 | pv r off =>
  rcases hd r (by simp[rf1]) with e | ⟨⟨a,e1⟩,b,e2⟩ | e
  ·exact .inr ⟨by simp only[zd,e],by
    simp only[A1,lv1,e]
    repeat' split
    all_goals simp only[av1]⟩
  ·exact .inr ⟨by simp only[zd,e1,e2],by simp only[A1,lv1,e1,e2,av1]⟩
  ·exact .inl e
 | ns t x=>cases x<;>exact .inr ⟨rfl,rfl⟩
 | _=>exact .inr ⟨rfl,rfl⟩
theorem freeB_fr {d:Nat} {b:TB} {s:TSt} (hf:jm d b s=true) (k:Nat):∀ y∈zaE (look k .bot s.fr),cl1 d b y=false:=by
 rcases yL (k:=k) (d:=TV.bot) (l:=s.fr) with h | h
 ·rw[h];intro y hy;simp only[zaE,qQ,mem_singleton] at hy;subst hy;cases b<;>rfl
 ·have:=all_eq_true.1 (and_eq_true_iff.1 hf).1 _ h;exact zeO (by simpa using this)
theorem freeB_hp {d:Nat} {b:TB} {s:TSt} (hf:jm d b s=true) {r:Nat} {cs:List TV} (hl:look r .gone s.hp=.var cs):∀ y∈cs,cl1 d b y=false:=by
 intro y hy;rcases yL (k:=r) (d:=TB.gone) (l:=s.hp) with h | h
 ·rw[h] at hl;cases hl
 ·rw[hl] at h;have:=all_eq_true.1 (and_eq_true_iff.1 hf).2 _ h;simp only at this;simpa using all_eq_true.1 this y hy
theorem pRow_ok {h:THp} {r:Nat} {t:Ty} {v:TV} {y:List t.den} (hp:pRow h r t v=some y):(v=.nl∧look r .gone h=.gone∧y=[])∨∃ v' v'',v=.lw r v'∧look r .gone h=.row v'' t y:=by
 unfold pRow at hp;split at hp
 ·split at hp
  ·rename_i h1 h2;cases hp;refine .inl ⟨rfl, ?_,rfl⟩;cases hq:look r .gone h<;>simp_all[zdR]
  ·cases hp
 ·rename_i s' v';split at hp
  ·rename_i v'' t' xs hb hl;rw[zH] at hb;subst hb;obtain ⟨rfl,rfl⟩:=zN hp;exact .inr ⟨v',v'',rfl,hl⟩
  ·cases hp
 ·cases hp
theorem subN_ok {l m:List Nat} (h:subN l m=true):∀ k∈l,k∈m:=fun k hk=>zaA.1 (all_eq_true.1 h k hk)
theorem zhD {β:Type} {l m:List β} {n:List β} (h:n=l++m):n.take (n.length - m.length)=l:=by subst h;simp
theorem inj_ok {m:Mods} {s0 s:TSt} {x:MK.denL m.ks} (ho:Over s0 s) (ht:told m s0 s=true) (hp:pMKs s0 s m.ks=some x):(za S).cv s.toA (inj m s0 x).toA:=by
 obtain ⟨⟨lf,ef⟩,lh,eh⟩:=ho;unfold told at ht;simp only[and_eq_true] at ht;obtain ⟨⟨t1,⟨t2,t3,t4⟩,t5⟩,t6⟩:=ht;rw[zhD ef] at t2;rw[zhD eh] at t3;have t2:=subN_ok t2;have t3:=subN_ok t3;obtain ⟨⟨m1,m2⟩,kf,kh⟩:=iMKs_ok (s0:=s0) (s:=s) (n:=s0.ctr) m.ks x t1 hp;generalize hF:(zgx s0.ctr s0.hp m.ks x).1=F at m1 m2 kf kh;generalize hH:(zgx s0.ctr s0.hp m.ks x).2=H at m1 m2 kf kh;obtain ⟨d1,d2⟩:=zid t4;obtain ⟨d3,d4⟩:=zid t5;rw[← kh] at d1 d2;rw[← kf] at d3 d4;have ifr:(inj m s0 x).fr=F++(m.w.map fun k=>(k,TV.bot))++s0.fr:=by rw[← hF];rfl
 have ihp:(inj m s0 x).hp=H++(m.wh.map fun k=>(k,TB.gone))++s0.hp:=by rw[← hH];rfl
 have wkeys:(m.w.map fun k=>(k,TV.bot)).map (·.1)=m.w:=by rw[map_map];exact map_id' _
 have whkeys:(m.wh.map fun k=>(k,TB.gone)).map (·.1)=m.wh:=by rw[map_map];exact map_id' _
 -- the heap,name by name
 have hpIn:∀ r b,(r,b)∈H->look r .gone (inj m s0 x).hp=b:=fun r b hb=>by rw[ihp,append_assoc];exact zgZ d1 hb
 have gones:∀ (l:List Nat) (r:Nat) (rest:THp),r∈l->look r .gone ((l.map fun k=>(k,TB.gone))++rest)=.gone:=by
  intro l
  induction l with
  | nil=>intro r rest h;cases h
  | cons a l ih =>
   intro r rest h;simp only[map_cons,cons_append,zj];split
   ·rfl
   ·rename_i hne;exact ih r rest ((mem_cons.1 h).resolve_left (Ne.symm hne))
 have bots:∀ (l:List Nat) (k:Nat) (rest:List (Nat×TV)),k∈l->look k .bot ((l.map fun k=>(k,TV.bot))++rest)=.bot:=by
  intro l
  induction l with
  | nil=>intro r rest h;cases h
  | cons a l ih =>
   intro r rest h;simp only[map_cons,cons_append,zj];split
   ·rfl
   ·rename_i hne;exact ih r rest ((mem_cons.1 h).resolve_left (Ne.symm hne))
 have hpWh:∀ r,r∈m.wh->look r .gone (inj m s0 x).hp=.gone:=fun r hr=>(by have hn:r ∉ H.map (·.1):=fun h=>d2 r h hr;rw[ihp,append_assoc,jy hn];exact gones m.wh r s0.hp hr);have hpElse:∀ r,r ∉ H.map (·.1)->r ∉ m.wh->look r .gone (inj m s0 x).hp=look r .gone s.hp∧look r .gone s0.hp=look r .gone s.hp:=fun r h1 h2=>by
  rw[ihp,append_assoc,jy h1,jy (by rw[whkeys];exact h2),eh,jy]
  ·exact ⟨rfl,rfl⟩
  ·intro hm;rcases mem_append.1 (t3 r hm) with h | h
   ·rw[← kh] at h;exact h1 h
   ·exact h2 h
 have cases3:∀ r,(∃ b,(r,b)∈H)∨(r∈m.wh)∨(r ∉ H.map (·.1)∧r ∉ m.wh):=fun r=>by
  by_cases h1:r∈H.map (·.1)
  ·obtain ⟨⟨a,b⟩,hm,rfl⟩:=mem_map.1 h1;exact .inl ⟨b,hm⟩
  ·by_cases h2:r∈m.wh
   ·exact .inr (.inl h2)
   ·exact .inr (.inr ⟨h1,h2⟩)
 -- zaE of the elder state
 have hLO:∀ y,(∀ r b,(r,b)∈H->jm r (.row s0.ctr .int []) s0=true->cl1 r (.row s0.ctr .int []) y=false)->LO s.hp (inj m s0 x).hp y:=by
  intro y hy;refine lo_of fun r hr => ?_;rcases cases3 r with ⟨b,hb⟩ | hw | ⟨h1,h2⟩
  ·have hl:=hpIn r b hb;rcases m2 r b hb with ⟨t,z,v,rfl,hpr,_,hf⟩ | ⟨v,t,z,rfl,hq⟩ | ⟨cs,vs,rfl,hq,_,_⟩
   ·right;right;have:=hy r _ hb hf;cases y with
    | lw r' v' =>simp only[rf1,mem_singleton] at hr;subst hr;simp only[cl1,beq_refl,Bool.true_and] at this;simp only[zd,hl,this]
    | ls r' v' off len =>simp only[rf1,mem_singleton] at hr;subst hr;simp only[cl1,beq_refl,Bool.true_and] at this;simp only[zd,hl,this]
    | pe r' v' i off =>simp only[rf1,mem_singleton] at hr;subst hr;simp only[cl1,beq_refl,Bool.true_and] at this;simp only[zd,hl,this]
    | pv r' off =>simp only[rf1,mem_singleton] at hr;subst hr;simp only[zd,hl]
    | _=>simp[rf1] at hr
   ·exact .inl (hl.trans hq.symm)
   ·exact .inr (.inl ⟨⟨vs,hq⟩,cs,hl⟩)
  ·right;right;have hl:=hpWh r hw;cases y with
   | lw r' v'=>simp only[rf1,mem_singleton] at hr;subst hr;simp only[zd,hl]
   | ls r' v' off len=>simp only[rf1,mem_singleton] at hr;subst hr;simp only[zd,hl]
   | pe r' v' i off=>simp only[rf1,mem_singleton] at hr;subst hr;simp only[zd,hl]
   | pv r' off=>simp only[rf1,mem_singleton] at hr;subst hr;simp only[zd,hl]
   | _=>simp[rf1] at hr
  ·exact .inl (hpElse r h1 h2).1
 -- values that are told
 let N:Nat->Prop:=fun r=>s.toA.hp r=none
 have hOkF:∀ v w,lv s.hp v=v->OkF s.hp H s0.ctr v w->Wk N (av s.hp v) (Av (inj m s0 x).hp w):=by
  rintro v w hl (⟨sh,y,rfl,hd⟩ | ⟨r,t,y,rfl,hm,hpr⟩)
  ·exact decW hl hd _
  ·have hlk:=hpIn r _ hm;have e3:lv (inj m s0 x).hp (.lw r s0.ctr)=.lw r s0.ctr:=by simp only[lv,lv2,lv1,hlk,beq_refl]
   rw[jU e3,zcZ hlk];rcases pRow_ok hpr with ⟨rfl,hg,rfl⟩ | ⟨v',v'',rfl,hg⟩
   ·exact .row0 r t.z (by simp only[N,z8,hg,blk])
   ·rw[zcZ hg];exact .rfl _
 refine zcI (SWk.mk' (N:=N) (fun k => ?_) (fun r => ?_) fun r hr=>hr)
 ·rw[zb6,zb6];by_cases h1:k∈F.map (·.1)
  ·obtain ⟨⟨k',w⟩,hm,rfl⟩:=mem_map.1 h1;have e:look k' .bot (inj m s0 x).fr=w:=by rw[ifr,append_assoc];exact zgZ d3 hm
   rw[e,← Av_lv];have:=hOkF _ w (yZ s (.t k')) (m1 k' w hm);rw[← jU (yZ s (.t k'))] at this;exact this
  ·by_cases h2:k∈m.w
   ·have e:look k .bot (inj m s0 x).fr=.bot:=(by rw[ifr,append_assoc,jy h1];exact bots m.w k s0.fr h2);rw[e];exact .bot _
   ·have e:look k .bot (inj m s0 x).fr=look k .bot s0.fr:=(by rw[ifr,append_assoc,jy h1,jy (by rw[wkeys];exact h2)]);have e2:look k .bot s.fr=look k .bot s0.fr:=by
     rw[ef,jy];intro hm;rcases mem_append.1 (t2 k hm) with h | h
     ·rw[← kf] at h;exact h1 h
     ·exact h2 h
    rw[e,e2];exact LO.wk fun y hy=>hLO y fun r b hb hf=>freeB_fr hf k y hy
 ·rw[z8,z8];rcases cases3 r with ⟨b,hb⟩ | hw | ⟨h1,h2⟩
  ·rw[hpIn r b hb];rcases m2 r b hb with ⟨t,z,v,rfl,hpr,hl,hf⟩ | ⟨v,t,z,rfl,hq⟩ | ⟨cs,vs,rfl,hq,hlen,hcs⟩
   ·rcases pRow_ok hpr with ⟨rfl,hg,rfl⟩ | ⟨v',v'',rfl,hg⟩
    ·exact .inr (.inr ⟨by rw[hg];rfl,t.z,rfl⟩)
    ·exact .inr (.inl ⟨_,_,by rw[hg];rfl,rfl,.rfl _⟩)
   ·exact .inr (.inl ⟨_,_,by rw[hq];rfl,rfl,.rfl _⟩)
   ·refine .inr (.inl ⟨_,_,by rw[hq];rfl,rfl,.var (by simp[hlen]) fun i a b ha hb => ?_⟩);simp only[getElem?_map,Option.map_eq_some_iff] at ha hb;obtain ⟨v,hv,rfl⟩:=ha;obtain ⟨c,hc,rfl⟩:=hb;have:=hOkF _ c (lv1_lv s.hp v) (hcs i c v hc hv);rw[zeW (yJ _ _)] at this;have e:Av (inj m s0 x).hp c=A1 (inj m s0 x).hp c∨Wk N (av1 s.hp (lv1 s.hp v)) (A1 (inj m s0 x).hp c):=by
     by_cases hx:leaf c=true
     ·exact .inl (qA hx)
     ·right;have:A1 (inj m s0 x).hp c=.bot:=by cases c<;>first | rfl | simp[leaf] at hx
      rw[this];exact .bot _
    rcases e with e | e
    ·rw[e] at this;exact this
    ·exact e
  ·rw[hpWh r hw];refine .inl ⟨rfl,fun hf => ?_⟩;have:=all_eq_true.1 t6 r hw;rw[hf] at this;cases this
  ·obtain ⟨e1,e2⟩:=hpElse r h1 h2;rw[e1];cases hq:look r .gone s.hp with
   | var vs =>
    refine .inr (.inl ⟨_,_,rfl,rfl,.var (by simp) fun i a b ha hb => ?_⟩);simp only[getElem?_map,Option.map_eq_some_iff] at ha hb;obtain ⟨v,hv,rfl⟩:=ha;obtain ⟨v',hv',rfl⟩:=hb;rw[hv] at hv';cases hv';have hlo:=hLO v fun r' b' hb' hf=>freeB_hp hf (e2.trans hq) v (mem_of_getElem? hv);rcases hlo with hlo | hlo
    ·have:=zar hlo;simp only[A1] at this;rw[this];exact .bot _
    ·have:=hlo.av;simp only[A1] at this;rw[this];exact .rfl _
   | row v t xs=>exact .inr (.inl ⟨_,_,rfl,rfl,.rfl _⟩)
   | _=>exact .inl ⟨rfl,fun _=>rfl⟩
theorem zad {m:Mods} {s0 s:TSt} {x:MK.denL m.ks} (ho:Over s0 s) (hp:zfy m s0 s=some x):(za S).cv s.toA (inj m s0 x).toA:=by
 unfold zfy at hp;split at hp
 ·rename_i s1 hs1;unfold TSt.frzS at hs1;split at hs1
  ·rename_i h hfz;cases hs1;split at hp
   ·rename_i ht;exact zeM (zbb _ _ _ hfz) (inj_ok (ho.trans (Over.push s h)) ht hp)
   ·cases hp
  ·cases hs1
 ·cases hp
theorem Over.inj (m:Mods) (s0:TSt) (x:MK.denL m.ks):Over s0 (inj m s0 x):=⟨⟨_,rfl⟩,_,rfl⟩
theorem zeC {σ:Type} {X:Option (Sum σ α)} {k:σ->Option α} {r:α} (h:jn X k=some r):(∃ y,X=some (.inl y)∧k y=some r)∨X=some (.inr r):=by
 unfold jn at h;split at h
 ·exact .inl ⟨_,rfl,h⟩
 ·cases h;exact .inr rfl
 ·cases h
theorem ws {σ:Type} {x:Option σ} {y:Sum σ α} (h:zB x=some y):∃ z,x=some z∧y=.inl z:=by
 cases x with
 | none=>cases h
 | some z=>cases h;exact ⟨z,rfl,rfl⟩
theorem zaH {σ:Type} {x:Option α} {y:Sum σ α} (h:zfU x=some y):∃ z,x=some z∧y=.inr z:=by
 cases x with
 | none=>cases h
 | some z=>cases h;exact ⟨z,rfl,rfl⟩
theorem zeq {σ:Type} {x:Option σ} {y:LR σ α} (h:nxO x=some y):∃ z,x=some z∧y=.nx z:=by
 cases x with
 | none=>cases h
 | some z=>cases h;exact ⟨z,rfl,rfl⟩
theorem zeI {σ:Type} {x:Option σ} {y:LR σ α} (h:dnO x=some y):∃ z,x=some z∧y=.dn z:=by
 cases x with
 | none=>cases h
 | some z=>cases h;exact ⟨z,rfl,rfl⟩
theorem yz {σ:Type} {x:Option α} {y:LR σ α} (h:jB x=some y):∃ z,x=some z∧y=.fin z:=by
 cases x with
 | none=>cases h
 | some z=>cases h;exact ⟨z,rfl,rfl⟩
theorem zhS {σ:Type} {B:σ->Option (LR σ α)} {x:σ} {y:Sum σ α} (h:lpO B x=some y):∃ n,lpN B n x=some y:=by
 unfold lpO at h;split at h
 ·exact ⟨_,h⟩
 ·cases h
theorem zfs (hC:qF S C):∀ (c:TCode) {α:Type} (s:TSt) (k:AExit->TSt->Option α) (r:α),run C c s k=some r->∃ e s',k e s'=some r∧Ex (za S) c.er s.toA e s'.toA∧Over s s':=by
 intro c
 induction c with
 | skip=>intro α s k r h;exact ⟨_,s,h,.skip _,.refl s⟩
 | ret=>intro α s k r h;exact ⟨_,s,h,.ret _,.refl s⟩
 | exit id=>intro α s k r h;exact ⟨_,s,h,.exit id _,.refl s⟩
 | region ops tys dr =>intro α s k r h;obtain ⟨s',h1,h2,h3⟩:=qZ hC ops tys s h;exact ⟨_,s',h1,.region h2,h3⟩
 | regionJ m ops tys dr =>
  intro α s k r h;simp only[run] at h;rcases zeC h with ⟨y,h1,h⟩ | h1
  ·obtain ⟨s',h2,h3,h4⟩:=qZ hC ops tys s h1;obtain ⟨z,hz,e⟩:=ws h2;cases e;exact ⟨_,_,h,.cvR (.region h3) (zad h4 hz),Over.inj m s y⟩
  ·obtain ⟨s',h2,h3,h4⟩:=qZ hC ops tys s h1;obtain ⟨z,hz,e⟩:=ws h2;cases e
 | seq a b iha ihb =>
  intro α s k r h;simp only[run] at h;obtain ⟨e,s',h1,h2,h3⟩:=iha s _ r h;cases e with
  | norm =>obtain ⟨e2,s2,h4,h5,h6⟩:=ihb s' k r h1;exact ⟨e2,s2,h4,.seqN h2 h5,h3.trans h6⟩
  | exit id=>exact ⟨_,s',h1,.seqE h2 (by simp),h3⟩
  | ret=>exact ⟨_,s',h1,.seqE h2 (by simp),h3⟩
 | cond c a b iha ihb =>
  intro α s k r h;simp only[run] at h;split at h
  ·rename_i x hx;have ec:s.toA.ev c=.v (.bool x):=by rw[zI,hx];rfl
   rcases zeU h with ⟨rfl,h⟩ | ⟨rfl,h⟩
   ·obtain ⟨e,s',h1,h2,h3⟩:=iha s k r h;exact ⟨e,s',h1,.cond ec (by simpa using h2),h3⟩
   ·obtain ⟨e,s',h1,h2,h3⟩:=ihb s k r h;exact ⟨e,s',h1,.cond ec (by simpa using h2),h3⟩
  ·cases h
 | condJ m c a b iha ihb =>
  intro α s k r h;simp only[run] at h;split at h
  ·rename_i x hx;have ec:s.toA.ev c=.v (.bool x):=by rw[zI,hx];rfl
   have main:∀ (t:Bool) (c':TCode),(c'=if t then a else b)->x=t->∀ (X:Sum (MK.denL m.ks) α),run C c' s (fun e s'=>match e with | .norm=>(zB (zfy m s s'):Option (Sum (MK.denL m.ks) α)) | e=>zfU (k e s'))=some X ->
     (∀ {β:Type} (s:TSt) (k:AExit->TSt->Option β) (r:β),run C c' s k=some r->∃ e s',k e s'=some r∧Ex (za S) c'.er s.toA e s'.toA∧Over s s') ->
     (∀ y,X=.inl y->k .norm (Ab.inj m s y)=some r->∃ e s',k e s'=some r∧Ex (za S) (.cond c a.er b.er) s.toA e s'.toA∧Over s s')∧(X=.inr r->∃ e s',k e s'=some r∧Ex (za S) (.cond c a.er b.er) s.toA e s'.toA∧Over s s'):=by
    intro t c' hc' ht X hX ih;subst ht;obtain ⟨e,s',h1,h2,h3⟩:=ih s _ X hX;have hex:Ex (za S) (.cond c a.er b.er) s.toA e s'.toA:=.cond ec (by subst hc';cases x<;>simpa using h2);cases e with
    | norm =>obtain ⟨z,hz,rfl⟩:=ws h1;refine ⟨fun y hy hk => ?_,fun hy=>nomatch hy⟩;cases hy;exact ⟨_,_,hk,.cvR hex (zad h3 hz),Over.inj m s z⟩
    | exit id =>obtain ⟨z,hz,rfl⟩:=zaH h1;exact ⟨fun y hy=>(nomatch hy),fun hy=>by cases hy;exact ⟨_,s',hz,hex,h3⟩⟩
    | ret =>obtain ⟨z,hz,rfl⟩:=zaH h1;exact ⟨fun y hy=>(nomatch hy),fun hy=>by cases hy;exact ⟨_,s',hz,hex,h3⟩⟩
   rcases zeC h with ⟨y,h1,h⟩ | h1
   ·rcases zeU h1 with ⟨hx',h1⟩ | ⟨hx',h1⟩
    ·exact (main true a rfl hx' _ h1 iha).1 y rfl h
    ·exact (main false b rfl hx' _ h1 ihb).1 y rfl h
   ·rcases zeU h1 with ⟨hx',h1⟩ | ⟨hx',h1⟩
    ·exact (main true a rfl hx' _ h1 iha).2 rfl
    ·exact (main false b rfl hx' _ h1 ihb).2 rfl
  ·cases h
 | block id b ih =>
  intro α s k r h;simp only[run] at h;obtain ⟨e,s',h1,h2,h3⟩:=ih s _ r h;cases e with
  | norm=>exact ⟨_,s',h1,.blockO h2 (by simp),h3⟩
  | ret=>exact ⟨_,s',h1,.blockO h2 (by simp),h3⟩
  | exit i =>
   simp only at h1;split at h1
   ·rename_i hb;rw[zH] at hb;subst hb;exact ⟨_,s',h1,.blockX h2,h3⟩
   ·rename_i hb;have hne:i≠id:=fun e=>by subst e;rw[beq_refl] at hb;cases hb
    exact ⟨_,s',h1,.blockO h2 (by simpa using hne),h3⟩
 | blockJ m id b ih =>
  intro α s k r h;simp only[run] at h;have main:∀ (X:Sum (MK.denL m.ks) α),run C b s (fun e s'=>match e with
   | .norm=>(zB (zfy m s s'):Option (Sum (MK.denL m.ks) α))
   | .exit i=>(match Nat.beq i id with | true=>zB (zfy m s s') | false=>zfU (k (.exit i) s'))
   | .ret=>zfU (k .ret s'))=some X ->
    (∀ y,X=.inl y->k .norm (Ab.inj m s y)=some r->∃ e s',k e s'=some r∧Ex (za S) (.block id b.er) s.toA e s'.toA∧Over s s')∧(X=.inr r->∃ e s',k e s'=some r∧Ex (za S) (.block id b.er) s.toA e s'.toA∧Over s s'):=by
   intro X hX;obtain ⟨e,s',h1,h2,h3⟩:=ih s _ X hX;cases e with
   | norm =>obtain ⟨z,hz,rfl⟩:=ws h1;refine ⟨fun y hy hk => ?_,fun hy=>nomatch hy⟩;cases hy;exact ⟨_,_,hk,.cvR (.blockO h2 (by simp)) (zad h3 hz),Over.inj m s z⟩
   | ret =>obtain ⟨z,hz,rfl⟩:=zaH h1;exact ⟨fun y hy=>(nomatch hy),fun hy=>by cases hy;exact ⟨_,s',hz,.blockO h2 (by simp),h3⟩⟩
   | exit i =>
    simp only at h1;split at h1
    ·rename_i hb;rw[zH] at hb;subst hb;obtain ⟨z,hz,rfl⟩:=ws h1;refine ⟨fun y hy hk => ?_,fun hy=>nomatch hy⟩;cases hy;exact ⟨_,_,hk,.cvR (.blockX h2) (zad h3 hz),Over.inj m s z⟩
    ·rename_i hb;have hne:i≠id:=fun e=>by subst e;rw[beq_refl] at hb;cases hb
     obtain ⟨z,hz,rfl⟩:=zaH h1;exact ⟨fun y hy=>(nomatch hy),fun hy=>by cases hy;exact ⟨_,s',hz,.blockO h2 (by simpa using hne),h3⟩⟩
  rcases zeC h with ⟨y,h1,h⟩ | h1
  ·exact (main _ h1).1 y rfl h
  ·exact (main _ h1).2 rfl
 | loop m id b ih =>
  intro α s k r h;simp only[run] at h;split at h
  ·cases h
  ·rename_i x0 hx0;have pre:(za S).cv s.toA (Ab.inj m s x0).toA:=zad (.refl s) hx0;have rounds:∀ (n:Nat) (x:MK.denL m.ks) (X:Sum (MK.denL m.ks) α),lpN (fun x=>run C b (Ab.inj m s x) fun e s'=>match e with
    | .norm=>(nxO (zfy m s s'):Option (LR (MK.denL m.ks) α))
    | .exit i=>(match Nat.beq i id with | true=>dnO (zfy m s s') | false=>jB (k (.exit i) s'))
    | .ret=>jB (k .ret s')) n x=some X ->
     (∀ y,X=.inl y->Ex (za S) (.loop b.er) (Ab.inj m s x).toA (.exit id) (Ab.inj m s y).toA)∧(∀ a,X=.inr a->∃ e s',k e s'=some a∧e≠.exit id∧Ex (za S) (.loop b.er) (Ab.inj m s x).toA e s'.toA∧Over s s'):=by
    intro n
    induction n with
    | zero=>intro x X h;cases h
    | succ n ihn =>
     intro x X h;simp only[lpN] at h;split at h
     ·rename_i y hy;obtain ⟨e,s',h1,h2,h3⟩:=ih (Ab.inj m s x) _ _ hy;have ho:=(Over.inj m s x).trans h3;have hn:e=.norm∧zfy m s s'=some y:=by
       cases e with
       | norm=>obtain ⟨z,hz,e⟩:=zeq h1;cases e;exact ⟨rfl,hz⟩
       | ret=>obtain ⟨z,hz,e⟩:=yz h1;cases e
       | exit i =>
        simp only at h1;split at h1
        ·obtain ⟨z,hz,e⟩:=zeI h1;cases e
        ·obtain ⟨z,hz,e⟩:=yz h1;cases e
      obtain ⟨rfl,hz⟩:=hn;have h4:Ex (za S) b.er (Ab.inj m s x).toA .norm (Ab.inj m s y).toA:=.cvR h2 (zad ho hz);obtain ⟨k1,k2⟩:=ihn y X h;exact ⟨fun y' hy'=>.loopN h4 (k1 y' hy'),fun a ha=>by
       obtain ⟨e,s2,j1,j2,j3,j4⟩:=k2 a ha;exact ⟨e,s2,j1,j2,.loopN h4 j3,j4⟩⟩
     ·rename_i y hy;cases h;obtain ⟨e,s',h1,h2,h3⟩:=ih (Ab.inj m s x) _ _ hy;have ho:=(Over.inj m s x).trans h3;have hn:e=.exit id∧zfy m s s'=some y:=by
       cases e with
       | norm=>obtain ⟨z,hz,e⟩:=zeq h1;cases e
       | ret=>obtain ⟨z,hz,e⟩:=yz h1;cases e
       | exit i =>
        simp only at h1;split at h1
        ·rename_i hb;rw[zH] at hb;subst hb;obtain ⟨z,hz,e⟩:=zeI h1;cases e;exact ⟨rfl,hz⟩
        ·obtain ⟨z,hz,e⟩:=yz h1;cases e
      obtain ⟨rfl,hz⟩:=hn;exact ⟨fun y' hy'=>(by cases hy';exact .loopE (.cvR h2 (zad ho hz)) (by simp)),fun a ha=>nomatch ha⟩
     ·rename_i a hy;cases h;obtain ⟨e,s',h1,h2,h3⟩:=ih (Ab.inj m s x) _ _ hy;have ho:=(Over.inj m s x).trans h3;refine ⟨fun y' hy'=>(nomatch hy'),fun a' ha' => ?_⟩;cases ha';cases e with
      | norm=>obtain ⟨z,hz,e⟩:=zeq h1;cases e
      | ret=>obtain ⟨z,hz,e⟩:=yz h1;cases e;exact ⟨_,s',hz,by simp,.loopE h2 (by simp),ho⟩
      | exit i =>
       simp only at h1;split at h1
       ·obtain ⟨z,hz,e⟩:=zeI h1;cases e
       ·rename_i hb;have hne:i≠id:=fun e=>by subst e;rw[beq_refl] at hb;cases hb
        obtain ⟨z,hz,e⟩:=yz h1;cases e;exact ⟨_,s',hz,by simpa using hne,.loopE h2 (by simp),ho⟩
     ·cases h
   rcases zeC h with ⟨y,h1,h⟩ | h1
   ·obtain ⟨n,hn⟩:=zhS h1;exact ⟨_,_,h,.cv pre (.blockX ((rounds n x0 _ hn).1 y rfl)),Over.inj m s y⟩
   ·obtain ⟨n,hn⟩:=zhS h1;obtain ⟨e,s',j1,j2,j3,j4⟩:=(rounds n x0 _ hn).2 r rfl;exact ⟨e,s',j1,.cv pre (.blockO j3 j2),j4⟩
end
end
section
open Go Go.RowKit
section
variable {S:Seat} {C:List CSpec}
def RW1 (x y:AV):Prop:=x=y∨(zp x=false∧zp y=false∧Wk (fun _=>False) x y)∨(x=aN∧∃ z,y=.own z [])
theorem zht {S:Seat} {A:Nat->Prop} {w:World} {b?:Option Nat} {x y:AV} {v:Value} (h:RW1 x y) (ha:yY S A w b? x v):yY S A w b? y v:=by
 rcases h with rfl | ⟨h1,h2,h3⟩ | ⟨rfl,z,rfl⟩
 ·exact ha
 ·have ha':b? = none∧VR0 S A w x v:=by
   cases x with
   | own z es=>simp[zp] at h1
   | _=>exact ha
  have:b? = none∧VR0 S A w y v:=⟨ha'.1,ha'.2.wk h3⟩;cases y with
  | own z es=>simp[zp] at h2
  | _=>exact this
 ·obtain ⟨h1,h2⟩:=ha;have:v=.slice none 0 0:=VR.v_inv (σ:=fun _=>none) (.of0 h2);exact ⟨by simp,.inl ⟨h1,rfl,this⟩⟩
def qc:AV->Bool
 | .tup _=>false
 | _=>true
theorem zfz {S:Seat} {A:Nat->Prop} {w:World} {β:Nat->Option Nat} {x y:AV} {v:Value} (hx:qc x=true) (hy:qc y=true) (h:RW1 x y) (hv:w9 S A w β x v):w9 S A w β y v:=by
 have hv':yY S A w (β 0) x v:=by
  cases x with
  | tup=>simp[qc] at hx
  | _=>exact hv
 have:=zht h hv';cases y with
 | tup=>simp[qc] at hy
 | _=>exact this
theorem zgN {f:Nat} {as:List AV} {x y:AV} {outs:zdf} (hx:qc x=true) (hy:qc y=true) (h:RW1 x y) (hr:(za S).ret f as x outs):(za S).ret f as y outs:=by intro g hg;have h2:=hr g hg;refine fun A w vs ι hl hA hι hJ ha=>(h2 A w vs ι hl hA hι hJ ha).mono ?_;rintro e w' ⟨v,he,hk,hj,β,hβ,hinj,hT,hv⟩;exact ⟨v,he,hk,hj,β,hβ,hinj,hT,zfz hx hy h hv⟩
theorem ret_rwL {f:Nat} {as:List AV} {xs ys:List AV} {outs:zdf} (hl:xs.length=ys.length) (h:∀ (i:Nat) (x y:AV),xs[i]? = some x->ys[i]? = some y->RW1 x y) (hr:(za S).ret f as (.tup xs) outs):(za S).ret f as (.tup ys) outs:=by intro g hg;have h2:=hr g hg;refine fun A w vs ι hl' hA hι hJ ha=>(h2 A w vs ι hl' hA hι hJ ha).mono ?_;rintro e w' ⟨v,he,hk,hj,β,hβ,hinj,hT,us,hv,hlen,hp⟩;refine ⟨v,he,hk,hj,β,hβ,hinj,hT,us,hv,by omega,fun i y hy => ?_⟩;obtain ⟨x,hx⟩:=zE hl hy;exact zht (h i x y hx hy) (hp i x hx)
theorem enc_arg {sh:Sh} (ha:sh.arg=true) (x:sh.den):Av [] (enc sh x)=encA sh x∧zp (encA sh x)=false:=by
 have two:∀ (sh:Sh) (x:sh.den),sh.ans1=true->sh.own1=false->A2 [] (enc sh x)=encA sh x∧zG [] (enc sh x)=true:=by
  intro sh x h1 h2;have g:(∀ t,sh≠.own t)∧(∀ f l,sh≠.fnc f l)∧(∀ l,sh≠.tp l)∧sh≠.unit:=(by refine ⟨fun t e => ?_,fun f l e => ?_,fun l e => ?_,fun e => ?_⟩<;>(subst e;first | (simp[Sh.own1] at h2;done) | (simp[Sh.ans1] at h1;done)))
  obtain ⟨e1,e2,_⟩:=zf9 g.1 g.2.1 g.2.2.1 g.2.2.2 x [];exact ⟨by rw[A2,e1,e2],by rw[← e1];exact j9 _ _⟩
 cases sh with
 | own t=>simp[Sh.arg] at ha
 | tp l=>simp[Sh.arg] at ha
 | unit=>simp[Sh.arg] at ha
 | fnc f caps =>
  simp only[Sh.arg] at ha;refine ⟨?_,rfl⟩;have all:∀ (l:List Sh) (x:Sh.denL l),(l.all fun s=>s.ans1 && !s.own1)=true->(wd l x).all (zG [])=true∧(wd l x).map (A2 [])=encAL l x:=by
   intro l
   induction l with
   | nil=>intro x _;exact ⟨rfl,rfl⟩
   | cons sh l ih =>
    intro x h;simp only[all_cons,and_eq_true,not_eq_true'] at h;cases l with
    | nil =>obtain ⟨k1,k2⟩:=two sh x h.1.1 h.1.2;exact ⟨by simp[wd,k2],by simp[wd,encAL,k1]⟩
    | cons sh' l =>obtain ⟨k1,k2⟩:=two sh x.1 h.1.1 h.1.2;obtain ⟨k3,k4⟩:=ih x.2 h.2;exact ⟨by simp only[wd,all_cons,k2,k3,Bool.and_self],by simp only[wd,encAL,map_cons,k1,k4]⟩
  obtain ⟨k1,k2⟩:=all caps x ha;simp only[enc,encA];rw[zaQ,if_pos k1,k2]
 | err=>exact ⟨rfl,by cases x<;>rfl⟩
 | ns t=>cases x<;>exact ⟨rfl,rfl⟩
 | st t =>refine ⟨?_,rfl⟩;obtain ⟨k1,_⟩:=two (.st t) x rfl rfl;rw[← k1];show Av [] (.ag (tvs t x))=A2 [] (.ag (tvs t x));rw[zbN,jV]
 | _=>exact ⟨rfl,rfl⟩
theorem zcD:∀ (sig:List Sh) (x:Sh.denL sig),sig.all Sh.arg=true->(wd sig x).map (Av [])=encAL sig x∧(∀ y∈encAL sig x,zp y=false)∧(encAL sig x).length=sig.length:=by
 intro sig
 induction sig with
 | nil=>intro x _;exact ⟨rfl,by simp[encAL],rfl⟩
 | cons sh l ih =>
  intro x h;simp only[all_cons,and_eq_true] at h;cases l with
  | nil =>obtain ⟨k1,k2⟩:=enc_arg h.1 x;exact ⟨by simp[wd,encAL,k1],by simp[encAL,k2],rfl⟩
  | cons sh' l =>
   obtain ⟨k1,k2⟩:=enc_arg h.1 x.1;obtain ⟨k3,k4,k5⟩:=ih x.2 h.2;refine ⟨by simp only[wd,encAL,map_cons,k1,k3],fun y hy => ?_,by simp only[encAL,length_cons,k5]⟩;simp only[encAL] at hy;rcases mem_cons.1 hy with rfl | hy
   ·exact k2
   ·exact k4 y hy
theorem frT_fr (muts:List Nat):∀ (i:Nat) (vs:List TV) (k:Nat),(∀ y∈vs.map (Av []),zp y=false)->Av [] (look k .bot (frT i vs))=jo muts i (vs.map (Av [])) k
 | _,[],_,_=>rfl
 | i,v :: vs,k,h=>by
  have h0:=h (Av [] v) (by simp);have ih:=frT_fr muts (i+1) vs k fun y hy=>h y (by simp at hy ⊢;exact .inr hy);simp only[frT,zj,map_cons,jo,upd];by_cases hk:i=k
  ·subst hk;simp only[if_true];cases hx:Av [] v with
   | own z es=>rw[hx] at h0;simp[zp] at h0
   | _=>rfl
  ·rw[if_neg hk,if_neg (Ne.symm hk)];exact ih
theorem zf8 {sig:List Sh} (x:Sh.denL sig) (h:sig.all Sh.arg=true):enter [] (encAL sig x)=(zaL sig x).toA:=by obtain ⟨k1,k2,_⟩:=zcD sig x h;have e1:(zaL sig x).toA.fr=(enter [] (encAL sig x)).fr:=(by funext k;show Av [] (look k .bot (frT 0 (wd sig x)))=jo [] 0 (encAL sig x) k;rw[← k1];exact frT_fr [] 0 _ k (by rw[k1];exact k2));have e2:(zaL sig x).toA.hp=(enter [] (encAL sig x)).hp:=(by show _=zS [] 0 (encAL sig x);rw[je [] 0 _ k2];rfl);show (⟨(enter [] (encAL sig x)).fr,(enter [] (encAL sig x)).hp⟩:ASt)=⟨(zaL sig x).toA.fr,(zaL sig x).toA.hp⟩;rw[e1,e2]
theorem fit_ok (l:List AV) (h:∀ y∈l,zp y=false):∀ i,qV [] i l=true:=by
 induction l with
 | nil=>intro i;rfl
 | cons a l ih =>intro i;simp only[qV,zx,h a mem_cons_self,List.contains_nil,Bool.or_self,Bool.and_false,beq_self_eq_true,Bool.true_and];exact ih (fun y hy=>h y (mem_cons_of_mem _ hy)) _
theorem resT_ok {s:TSt} {ar:ARes} {v:TV} (h:resT s ar=some v):jZ s.toA ar=some (av s.hp v)∧lv s.hp v=v:=by
 cases ar with
 | tmp t =>simp only[resT,Option.some.injEq] at h;subst h;exact ⟨by simp only[jZ];exact congrArg some (zI s (.t t)),yZ s _⟩
 | cell t n =>
  simp only[resT] at h;split at h
  ·rename_i t' y off hx;obtain ⟨e1,e2⟩:=jW hx;obtain ⟨t1,t2⟩:=zbr t' y s.hp;obtain ⟨p1,p2⟩:=yH (h:=s.hp) (fun y hy=>jP (t2 y hy).1) h;rw[t1] at p1;have e3:s.toA.fr t=.ep (t'.cells y) off:=e1;exact ⟨by simp only[jZ,e3,cellsAt,p1],p2⟩
  ·rename_i r off hx;obtain ⟨e1,e2⟩:=jW hx;split at h
   ·rename_i cs hl;obtain ⟨p1,p2⟩:=yH (h:=s.hp) (fun y hy=>by obtain ⟨z,hz,rfl⟩:=mem_map.1 hy;exact yK _ z) h;rw[map_map] at p1;have e3:s.toA.fr t=.pv r off:=e1;refine ⟨?_,p2⟩;simp only[jZ,e3,cellsAt,z8,hl,blk];exact p1
   ·cases h
  ·rename_i r v' i off hx;obtain ⟨e1,e2⟩:=jW hx;split at h
   ·rename_i v'' t' xs hl;split at h
    ·rename_i y hy;obtain ⟨t1,t2⟩:=zbr t' y s.hp;obtain ⟨p1,p2⟩:=yH (h:=s.hp) (fun y hy=>jP (t2 y hy).1) h;rw[t1] at p1;have e3:s.toA.fr t=.pe r t'.z i off:=by have:=e1;rw[zhr hl] at this;exact this
     refine ⟨?_,p2⟩;simp only[jZ,e3,cellsAt,z8,hl,blk,if_true,getElem?_map,hy,map_some];exact p1
    ·cases h
   ·cases h
  ·cases h
theorem refs_eq {h:THp} {x:TV} (hl:lv h x=x):(av h x).refs=rf x:=by
 have one:∀ y,lv1 h y=y->(av1 h y).refs=rf1 y:=by
  intro y hy;cases y with
  | e x=>cases x<;>simp[av1,Err.av,AV.refs,aI,rf1]
  | ns t x=>cases x<;>simp[av1,AV.refs,aN,rf1]
  | lw s v=>obtain ⟨t,xs,hq⟩:=zbs hy;simp[av1,hq,AV.refs,rf1]
  | ls s v off len=>obtain ⟨t,xs,hq⟩:=sl_ls hy;simp[av1,hq,AV.refs,rf1]
  | pe s v i off=>obtain ⟨t,xs,hq⟩:=ziF hy;simp[av1,hq,AV.refs,rf1]
  | pv s off=>rfl
  | _=>simp[av1,AV.refs,aI,aU,aB,aS,aN,ud,rf1]
 have lst:∀ (l:List TV) (f:TV->AV) (g:TV->List Nat),(∀ y∈l,(f y).refs=g y)->AV.refsL (l.map f)=l.flatMap g:=by
  intro l f g
  induction l with
  | nil=>intro _;rfl
  | cons a l ih=>intro h;simp only[map_cons,AV.refsL,List.flatMap_cons,h a mem_cons_self,ih fun y hy=>h y (mem_cons_of_mem _ hy)]
 have two:∀ y,lv2 h y=y->(av2 h y).refs=rf2 y:=by
  intro y hy;cases y with
  | ag cs=>simp only[av2,AV.refs,rf2];exact lst _ _ _ fun z hz=>one z (zfP hy z hz)
  | _=>exact one _ (by simpa only[lv2] using hy)
 cases x with
 | tp cs=>simp only[av,AV.refs,rf];exact lst _ _ _ fun z hz=>two z (lv_tp hl z hz)
 | fn f cs=>simp only[av,AV.refs,rf];exact lst _ _ _ fun z hz=>two z (lv_fn hl z hz)
 | ag cs=>exact two (.ag cs) hl
 | _=>exact two _ (by simpa only[lv] using hl)
theorem refsL_eq {h:THp} (l:List TV) (hl:∀ y∈l,lv h y=y):AV.refsL (l.map (av h))=l.flatMap rf:=by
 induction l with
 | nil=>rfl
 | cons a l ih=>simp only[map_cons,AV.refsL,List.flatMap_cons,refs_eq (hl a mem_cons_self),ih fun y hy=>hl y (mem_cons_of_mem _ hy)]
theorem zgE {hp:Nat->Option Blk} {x a:AV} (h:qe hp x=some a) (hx:qc x=true):zp a=false∧qc a=true:=by
 have s1:∀ {x a:AV},qa hp x=some a->qc x=true->zp a=false∧qc a=true:=by
  intro x a h hx;cases x with
  | tup=>simp[qc] at hx
  | own z es=>simp[qa] at h
  | pe s z i off=>simp only[qa] at h;repeat' split at h
                  all_goals (first | (cases h;exact ⟨rfl,rfl⟩) | cases h)
  | lsl s z off len=>simp only[qa] at h;repeat' split at h
                     all_goals (first | (cases h;exact ⟨rfl,rfl⟩) | cases h)
  | _=>simp only[qa] at h;repeat' split at h
       all_goals (first | (cases h;exact ⟨rfl,rfl⟩) | cases h)
 cases x with
 | tup=>simp[qc] at hx
 | pv s off=>simp only[qe] at h;repeat' split at h
             all_goals (first | (cases h;exact ⟨rfl,rfl⟩) | cases h)
 | agg cs=>simp only[qe] at h;repeat' split at h
           all_goals (first | (cases h;exact ⟨rfl,rfl⟩) | cases h)
 | _=>simp only[qe] at h;exact s1 h hx
theorem zi6 {sh:Sh} {v:TV} {x:sh.den} (ha:sh.ans1=true) (h:dec [] sh v=some x):rf v=[]:=by
 cases sh with
 | int=>obtain rfl:=zT h;rfl
 | u8=>obtain rfl:=zhc h;rfl
 | bool=>obtain rfl:=zcH h;rfl
 | str=>obtain rfl:=yl h;rfl
 | err=>obtain rfl:=zhd h;rfl
 | unit=>simp[Sh.ans1] at ha
 | sl t =>simp only[dec] at h;obtain ⟨_,_,_,k4,_,k6⟩:=wv h [];obtain ⟨s1,s2⟩:=wD k6;rw[s1] at k4;cases v<;>first | exact s2 | (simp[leaf] at k4;done)
 | ns t =>simp only[dec] at h;obtain ⟨_,_,k4,_,k6⟩:=zie h [];obtain ⟨s1,s2⟩:=wD k6;rw[s1] at k4;cases v<;>first | exact s2 | (simp[leaf] at k4;done)
 | st t =>
  simp only[dec] at h;split at h
  ·rename_i cs;have hu:=yD h [];simp only[rf,rf2];exact flatMap_eq_nil_iff.2 fun y hy=>(wD (hu.flat _ (mem_map.2 ⟨y,hy,rfl⟩)).2.2.2).2
  ·cases h
 | bx t =>
  simp only[dec] at h;split at h
  ·rfl
  ·simp[look] at h
  ·cases h
 | own t=>simp[dec] at h
 | fnc=>simp[Sh.ans1] at ha
 | tp=>simp[Sh.ans1] at ha
theorem zf5 {st:ASt} {x:AV} (h:x.refs=[]):yA st x=some x:=by
 cases x with
 | lsl s z off n=>simp[AV.refs] at h
 | _=>simp only[yA,h];rfl
theorem zg8 {own:Bool} {s:TSt} {sh:Sh} {v:TV} {x:sh.den} (ha:sh.ans1=true) (hl:lv s.hp v=v) (h:exp1 own s.hp sh v=some x) :
  ∃ a,(if own=true then yA s.toA (av s.hp v) else qe s.toA.hp (av s.hp v))=some a∧RW1 a (encA sh x)∧qc a=true∧qc (encA sh x)=true:=by
 have nt:qc (encA sh x)=true:=by
  cases sh with
  | tp=>simp[Sh.ans1] at ha
  | unit=>simp[Sh.ans1] at ha
  | err=>cases x<;>rfl
  | ns=>cases x<;>rfl
  | _=>rfl
 by_cases ho:∃ t,sh=.own t
 ·obtain ⟨t,rfl⟩:=ho;simp only[exp1] at h;cases own with
  | false=>cases h
  | true =>
   simp only at h;split at h
   ·rename_i r v';split at h
    ·rename_i v'' t' xs hb hq;obtain ⟨rfl,rfl⟩:=zN h;refine ⟨.own t'.z (List.map t'.cells x), ?_,.inl rfl,rfl,rfl⟩;rw[if_pos rfl,zcZ hq];simp only[yA,z8,hq,blk];rw[if_pos ⟨True.intro,by simp,by simpa using hb⟩]
    ·cases h
   ·cases h;exact ⟨aN,rfl,.inr (.inr ⟨rfl,t.z,rfl⟩),rfl,rfl⟩
   ·cases h
 ·have hno:∀ t,sh≠.own t:=fun t e=>ho ⟨t,e⟩;have h':(match (generalizing:=false) own with | true=>dec [] sh v | false=>dec s.hp sh v)=some x:=by
   cases sh with
   | own t=>exact absurd rfl (hno t)
   | _=>exact h
  have n2:zp (encA sh x)=false:=by
   cases sh with
   | own t=>exact absurd rfl (hno t)
   | err=>cases x<;>rfl
   | ns=>cases x<;>rfl
   | _=>rfl
  -- not a tuple,not a function
  have hv2:∀ hp,dec hp sh v=some x->lv2 s.hp v=v:=by
   intro hp hd;cases v with
   | tp vs=>cases sh<;>first | (simp[Sh.ans1] at ha;done) | (simp[dec,dI,dU,dB,dS,dE,qb,dSl,dNs] at hd;done)
   | fn f vs=>cases sh<;>first | (simp[Sh.ans1] at ha;done) | (simp[dec,dI,dU,dB,dS,dE,qb,dSl,dNs] at hd;done)
   | _=>exact hl
  cases own with
  | false =>
   have hv:=hv2 _ h';obtain ⟨a,k1,k2⟩:=zeL hv h';have e:av s.hp v=av2 s.hp v:=by cases v<;>first | rfl | simp[lv2,lv1] at hv
   have hnt:qc (av2 s.hp v)=true:=by
    cases v with
    | tp=>simp[lv2,lv1] at hv
    | e x=>cases x<;>rfl
    | ns t x=>cases x<;>rfl
    | lw r v=>obtain ⟨t,xs,hq⟩:=zbs hv;simp[av2,av1,hq,qc]
    | ls r v off len=>obtain ⟨t,xs,hq⟩:=sl_ls hv;simp[av2,av1,hq,qc]
    | pe r v i off=>obtain ⟨t,xs,hq⟩:=ziF hv;simp[av2,av1,hq,qc]
    | _=>rfl
   obtain ⟨s1,s2⟩:=zgE k1 hnt;exact ⟨a,by rw[if_neg (by simp),e];exact k1,.inr (.inl ⟨s1,n2,k2⟩),s2,nt⟩
  | true =>
   have hv:=hv2 _ h';have e:av s.hp v=av2 s.hp v:=by cases v<;>first | rfl | simp[lv2,lv1] at hv
   obtain ⟨k1,k2⟩:=decW2 (N:=fun _=>False) hv h' s.hp;have g:(∀ f l,sh≠.fnc f l)∧(∀ l,sh≠.tp l)∧sh≠.unit:=(by refine ⟨fun f l e => ?_,fun l e => ?_,fun e => ?_⟩<;>(subst e;simp[Sh.ans1] at ha))
   obtain ⟨_,e2,_⟩:=zf9 hno g.1 g.2.1 g.2.2 x s.hp;rw[e2] at k2;have hr:(av s.hp v).refs=[]:=by rw[refs_eq hl];exact zi6 ha h'
   have hnt:qc (av2 s.hp v)=true∧zp (av2 s.hp v)=false:=by
    cases v with
    | tp=>simp[lv2,lv1] at hv
    | e x=>cases x<;>exact ⟨rfl,rfl⟩
    | ns t x=>cases x<;>exact ⟨rfl,rfl⟩
    | lw r v=>obtain ⟨t,xs,hq⟩:=zbs hv;simp[av2,av1,hq,qc,zp]
    | ls r v off len=>obtain ⟨t,xs,hq⟩:=sl_ls hv;simp[av2,av1,hq,qc,zp]
    | pe r v i off=>obtain ⟨t,xs,hq⟩:=ziF hv;simp[av2,av1,hq,qc,zp]
    | _=>exact ⟨rfl,rfl⟩
   exact ⟨av2 s.hp v,by rw[if_pos rfl,zf5 hr,e],.inr (.inl ⟨hnt.2,n2,k2⟩),hnt.1,nt⟩
theorem expL_ok {own:Bool} {s:TSt}:∀ (l:List Sh) (vs:List TV) (x:Sh.denL l),l.all Sh.ans1=true->(∀ v∈vs,lv s.hp v=v)->expL own s.hp l vs=some x ->
  ∃ as,zb (fun a=>if own=true then yA s.toA a else qe s.toA.hp a) (vs.map (av s.hp))=some as∧as.length=(encAL l x).length∧as.length=vs.length∧(∀ (i:Nat) (a b:AV),as[i]? = some a->(encAL l x)[i]? = some b->RW1 a b):=by
 intro l
 induction l with
 | nil =>
  intro vs x _ _ h;cases vs with
  | nil=>exact ⟨[],rfl,rfl,rfl,by simp⟩
  | cons=>simp[expL] at h
 | cons sh l ih =>
  intro vs x ha hl h;simp only[all_cons,and_eq_true] at ha;cases l with
  | nil =>
   match vs with
   | []=>simp[expL] at h
   | [v] =>
    simp only[expL] at h;obtain ⟨a,k1,k2,_⟩:=zg8 ha.1 (hl v (by simp)) h;refine ⟨[a],by simp only[map_cons,map_nil,zb];rw[k1],rfl,rfl,fun i a' b ha' hb => ?_⟩;cases i with
    | zero=>simp[encAL] at ha' hb;subst ha';subst hb;exact k2
    | succ i=>simp at ha'
   | _ :: _ :: _=>simp[expL] at h
  | cons sh' l =>
   cases vs with
   | nil=>simp[expL] at h
   | cons v vs =>
    simp only[expL] at h;split at h
    ·rename_i a b h1 h2;cases h;obtain ⟨a',k1,k2,_⟩:=zg8 ha.1 (hl v (by simp)) h1;obtain ⟨as,m1,m2,m3,m4⟩:=ih vs b ha.2 (fun v hv=>hl v (mem_cons_of_mem _ hv)) h2;refine ⟨a' :: as, ?_,by simp only[encAL,length_cons,m2],by simp[m3],fun i c d hc hd => ?_⟩
     ·simp only[map_cons,zb];rw[k1];rw[m1]
     ·simp only[encAL] at hd;cases i with
      | zero=>simp at hc hd;subst hc;subst hd;exact k2
      | succ i=>simp only[List.getElem?_cons_succ] at hc hd;exact m4 i c d hc hd
    ·cases h
noncomputable def TFunc.runFrom (C:List CSpec) (f:TFunc) (s0:TSt) (rs:Sh):Option rs.den :=
 Ab.run C f.body s0 fun e s=>match e with
  | .exit _=>none
  | _=>match zb (resT s) f.res with | some vs=>(match !f.own || qh (vs.flatMap rf) with | true=>expT f.own s.hp rs vs | false=>none) | none=>none
theorem zfj (hC:qF S C) {f:TFunc} (hm:f.muts=[]) {s0:TSt} {rs:Sh} {y:rs.den} {Q:AV->Prop} (hQ:∀ e s' r,Ex (za S) f.body.er s0.toA e s'->(e=.norm∨e=.ret)->qN f.own f.muts f.res s'=some (r,[])->Q r) (w1:∀ {x y:AV},qc x=true->qc y=true->RW1 x y->Q x->Q y)
  (wL:∀ {xs ys:List AV},xs.length=ys.length->(∀ (i:Nat) (x y:AV),xs[i]? = some x->ys[i]? = some y->RW1 x y)->Q (.tup xs)->Q (.tup ys)) (h3:rs.ans=true)
  (h:f.runFrom C s0 rs=some y):Q (encA rs y):=by
 unfold TFunc.runFrom at h;obtain ⟨e,s,hk,hex,_⟩:=zfs (S:=S) hC f.body _ _ _ h;have he:e=.norm∨e=.ret:=by
  cases e with
  | norm=>exact .inl rfl
  | ret=>exact .inr rfl
  | exit i=>cases hk
 have hk':(match zb (resT s) f.res with | some vs=>(match !f.own || qh (vs.flatMap rf) with | true=>expT f.own s.hp rs vs | false=>none) | none=>none)=some y:=(by rcases he with rfl | rfl<;>exact hk)
 split at hk'
 ·rename_i vs hvs;split at hk'
  ·rename_i hnd;have hres:zb (jZ s.toA) f.res=some (vs.map (av s.hp))∧∀ v∈vs,lv s.hp v=v:=zaY (fun a _ v hv=>resT_ok hv) hvs
   have body:∀ r,(if f.own=true then (if qh (AV.refsL (vs.map (av s.hp)))=true then (match zb (yA s.toA) (vs.map (av s.hp)) with | some ys=>some (qt ys) | none=>none) else none) else (match zb (qe s.toA.hp) (vs.map (av s.hp)) with | some ys=>some (qt ys) | none=>none))=some r ->
     Q r:=by
    intro r hr;refine hQ e s.toA r hex he ?_
    ·show qN f.own f.muts f.res s.toA=some (r,[]);rw[hm];unfold qN;rw[hres.1];simp only;cases ho:f.own with
     | true =>
      rw[ho] at hr;simp only[if_true,and_true] at hr ⊢;split at hr
      ·rename_i hn;rw[if_pos hn];split at hr
       ·rename_i ys hy;cases hr;rw[hy]
       ·cases hr
      ·cases hr
     | false =>
      rw[ho] at hr;simp only[false_eq_true,if_false,if_true] at hr ⊢;split at hr
      ·rename_i ys hy;cases hr;rw[hy]
      ·cases hr
   have exp:∀ as,zb (fun a=>if f.own=true then yA s.toA a else qe s.toA.hp a) (vs.map (av s.hp))=some as->Q (qt as):=by
    intro as ha;refine body _ ?_;cases ho:f.own with
    | true =>
     rw[ho] at ha hnd;simp only[if_true] at ha ⊢;have hn:qh (AV.refsL (vs.map (av s.hp)))=true:=by rw[refsL_eq vs hres.2];simpa using hnd
     rw[if_pos hn,ha]
    | false =>rw[ho] at ha;simp only[false_eq_true,if_false] at ha ⊢;rw[ha]
   -- by the answer's shape
   have single:rs.ans1=true->(∃ v,vs=[v]∧exp1 f.own s.hp rs v=some y)->Q (encA rs y):=(by rintro ha ⟨v,rfl,hv⟩;obtain ⟨a,k1,k2,k3,k4⟩:=zg8 ha (hres.2 v (by simp)) hv;have:=exp [a] (by simp only[map_cons,map_nil,zb];rw[k1]);exact w1 k3 k4 k2 this);cases rs with
   | tp l =>
    simp only[expT] at hk';split at hk'
    ·rename_i v1 v2 vs';obtain ⟨as,m1,m2,m3,m4⟩:=expL_ok l _ y h3 hres.2 hk';have:=exp as m1;have e2:qt as=.tup as:=by
      match as,m3 with
      | _ :: _ :: _,_=>rfl
      | [_],h=>simp at h
      | [],h=>simp at h
     rw[e2] at this;exact wL m2 m4 this
    ·cases hk'
   | unit =>
    simp only[expT] at hk';split at hk'
    ·exact exp [] rfl
    ·cases hk'
   | fnc f l=>simp[Sh.ans] at h3
   | _ =>
    simp only[expT] at hk';split at hk'
    ·exact single rfl ⟨_,rfl,hk'⟩
    ·cases hk'
  ·cases hk'
 ·cases hk'
theorem ziC {G:Nat->Option AFunc} (hM:Ok G (za S)) (hC:qF S C) {id:Nat} {f:TFunc} (hf:G id=some f.er) (hm:f.muts=[]) {sig:List Sh} {rs:Sh} (h1:sig.all Sh.arg=true) (h2:sig.length=f.np) (h3:rs.ans=true) {x:Sh.denL sig} {y:rs.den}
  (h:f.run C sig rs x=some y):(za S).ret id (encAL sig x) (encA rs y) []:=by
 obtain ⟨a1,a2,a3⟩:=zcD sig x h1;refine zfj hC hm (s0:=zaL sig x) (Q:=fun r=>(za S).ret id (encAL sig x) r []) (fun e s' r hex he hr=>hM id f.er _ r [] hf ⟨by rw[a3,h2];rfl,by show qV f.muts 0 _=true;rw[hm];exact fit_ok _ a2 0,e,s', ?_,he,hr⟩) (fun a b c d=>zgN a b c d) (fun a b d=>ret_rwL a b d) h3 h;show Ex _ f.body.er (enter f.muts (encAL sig x)) e s';rw[hm,zf8 x h1];exact hex
end
end
section
open Go Go.RowKit
section
variable {S:Seat} {C:List CSpec}
end
end
section
open Go Go.RowKit
section
variable {S:Seat}
def Ok1 (S:Seat) (id:Nat) (f:TFunc):Prop:=Ok (fun i=>if i=id then some f.er else none) (za S)
def Rt (S:Seat) (c:CSpec):Prop:=∀ x y,c.fn x=some y->retK S c.f (encAL c.sig x) (yV c.muts) c.res y
theorem qF.nil:qF S []:=fun c hc=>by cases hc
theorem qF.cons {c:CSpec} {r:List CSpec} (h:Rt S c) (hr:qF S r):qF S (c :: r):=fun c' hc=>by
 rcases mem_cons.1 hc with rfl | hc
 ·exact h
 ·exact hr c' hc
def RtF (S:Seat):List CSpec->Prop->Prop
 | [],T=>T
 | k :: l,T=>Rt S k->RtF S l T
theorem rtf:∀ {C:List CSpec} {T:Prop},(qF S C->T)->RtF S C T
 | [],_,h=>h qF.nil
 | _ :: _,_,h=>fun hk=>rtf fun hl=>h (qF.cons hk hl)
theorem Ok1.sound {id:Nat} {f:TFunc} {C:List CSpec} {sig:List Sh} {rs:Sh} (h:Ok1 S id f) (hC:qF S C) (h1:sig.all Sh.arg=true) (h2:sig.length=f.np) (h3:rs.ans=true) {x:Sh.denL sig} {y:rs.den} (hr:f.run C sig rs x=some y)
  (hm:f.muts=[]):(za S).ret id (encAL sig x) (encA rs y) []:=ziC h hC (if_pos rfl) hm h1 h2 h3 hr
theorem okr {f:TFunc} {C:List CSpec} {k:CSpec} (h:Ok1 S k.f f) (hb:(k.muts.isEmpty && k.sig.all Sh.arg && Nat.beq k.sig.length f.np && k.res.ans && f.muts.isEmpty)=true) (hr:∀ x,f.run C k.sig k.res x=k.fn x):RtF S C (Rt S k):=rtf fun hC x y hy=>by
 simp only[and_eq_true,isEmpty_iff] at hb;obtain ⟨⟨⟨⟨h0,h1⟩,h2⟩,h3⟩,h4⟩:=hb;rw[h0];exact Ok1.sound h hC h1 (Nat.eq_of_beq_eq_true h2) h3 ((hr x).trans hy) h4
theorem qj:∀ (l:List (Nat×Nat)) (k v:Nat),zV k l=some v->(k,v)∈l
 | [],_,_,h=>by cases h
 | (a,b) :: r,k,v,h=>by
  simp only[zV] at h;split at h
  ·rename_i e;subst e;cases h;exact mem_cons_self
  ·exact mem_cons_of_mem _ (qj r k v h)
def only (g id:Nat) (l:List (Nat×Nat)):Bool:=l.all fun p=>match Nat.beq p.2 id with | true=>Nat.beq p.1 g | false=>true
theorem zi (hS:zO S) {g id:Nat} {fn:Func} {f:TFunc} (h1:S.P.funcs[g]? = some fn) (h2:zan S id fn=some f.er) (h3:only g id S.fns=true):Ok1 S id f:=by
 refine ok_of hS (fun g' id' h f' hf => ?_) fun _ _ _=>.inr (drawOk hS);split at hf
 ·rename_i e;subst e;cases hf;have:=all_eq_true.1 h3 _ (qj _ _ _ h);simp only[beq_refl] at this;obtain rfl:=Nat.eq_of_beq_eq_true this;exact ⟨fn,h1,h2⟩
 ·cases hf
def callB (P : Program) (l : List (Nat × Nat)) : Bool := l.all fun p => match P.funcs[p.1]? with | some fn => fn.body.isSome && !(fn.name == "runtime.NumGoroutine") | none => false
theorem zhl (h:callB S.P S.fns=true):zO S:=by
 intro g id hg;have:=all_eq_true.1 h _ (qj _ _ _ hg);simp only at this;split at this
 ·rename_i fn hf;simp only[and_eq_true,not_eq_true'] at this;exact ⟨fn,hf,this.1,this.2⟩
 ·cases this
end
end
end Ab
