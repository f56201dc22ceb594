import Derived.Test.YtckaniphjiniiaaGreatDoorB1
import Derived.KernelRfl
open List (all_nil map_set)
set_option linter.all false
namespace Ab
section
open Go Go.RowKit
section
variable {S:Seat} {q:Bool} {α:Type} {C:List CSpec} {ty:Ty} {d:Nat} {s:TSt} {k:TV->THp->Option α} {r:α}
def Av_i (h:THp) (n:Int):Av h (.i n)=.v (.int .i64 n):=rfl
def Av_u (h:THp) (n:Int):Av h (.u n)=.v (.int .u8 n):=rfl
def Av_b (h:THp) (n:Bool):Av h (.b n)=.v (.bool n):=rfl
def Av_sl (h:THp) (t:Ty) (xs:List t.den):Av h (.sl t xs)=.sl t.z (xs.map t.cells):=rfl
def Av_ep (h:THp) (t:Ty) (x:t.den) (off:Nat):Av h (.ep t x off)=.ep (t.cells x) off:=rfl
def top_chk {x:AOpd} (h:top C q ty (.chk x) d s k=some r):∃v hs,k v hs=some r∧qd S q (.chk x) d s v hs:=by
 simp only[top] at h;split at h
 ·rename_i r' off hx;obtain⟨e1,e2⟩:=yU hx;exact⟨_,_,h,.val rfl (by simp only[aop,e1,av_pv,j7 e2])⟩
 ·rename_i r' v i off hx;obtain⟨e1,e2⟩:=yU hx;obtain⟨t,xs,hl⟩:=kE (jL rfl e2);exact⟨_,_,h,.val rfl (by simp only[aop,e1,zky hl,j7 e2])⟩
 ·rename_i t y off hx;obtain⟨e1,e2⟩:=yU hx;exact⟨_,_,h,.val rfl (by simp only[aop,e1,av_ep,j7 e2])⟩
 ·rename_i f caps hx;obtain⟨e1,e2⟩:=yU hx;exact⟨_,_,h,.val rfl (by rw[j7 e2];simp only[aop,e1];rfl)⟩
 ·cases h
def binT_ok {kd:Sc} {op:BinOp} {x y:TV} (h:binT kd op x y (fun v=>k v [])=some r) (hp:THp):∃v a b c,k v []=some r∧av hp x=.v a∧av hp y=.v b∧zhZ kd op a b=some c∧Av hp v=.v c:=by
 unfold binT at h;split at h
 ·split at h
  ·exact⟨_,_,_,_,h,rfl,rfl,rfl,rfl⟩
  ·exact⟨_,_,_,_,h,rfl,rfl,rfl,rfl⟩
  ·exact⟨_,_,_,_,h,rfl,rfl,rfl,rfl⟩
  ·obtain⟨h1,h⟩:=qG h;exact⟨_,_,_,_,h,rfl,rfl,by simp only[zhZ,if_true];rw[if_neg (of_decide_eq_true h1)];(try rfl),rfl⟩
  ·obtain⟨h1,h⟩:=qG h;exact⟨_,_,_,_,h,rfl,rfl,by simp only[zhZ,if_true];rw[if_neg (of_decide_eq_true h1)];(try rfl),rfl⟩
  all_goals first|exact⟨_,_,_,_,h,rfl,rfl,rfl,rfl⟩|cases h
 ·split at h
  all_goals first|exact⟨_,_,_,_,h,rfl,rfl,rfl,rfl⟩|cases h
 ·split at h
  ·split at h
   ·rename_i hb;exact⟨_,_,_,_,h,rfl,rfl,by simp only[zhZ,if_true];rw[if_pos (of_decide_eq_true hb)],rfl⟩
   ·cases h
  ·cases h
 ·split at h
  ·obtain⟨h1,h⟩:=qG h;exact⟨_,_,_,_,h,rfl,rfl,by simp only[zhZ];rw[if_pos (of_decide_eq_true h1)],rfl⟩
  all_goals first|exact⟨_,_,_,_,h,rfl,rfl,rfl,rfl⟩|cases h
 ·split at h
  all_goals first|exact⟨_,_,_,_,h,rfl,rfl,rfl,rfl⟩|cases h
 ·cases h
def top_bin {kd:Sc} {op:BinOp} {x y:AOpd} (h:top C q ty (.bin kd op x y) d s k=some r):∃v hs,k v hs=some r∧qd S q (.bin kd op x y) d s v hs:=by simp only[top] at h;obtain⟨v,a,b,c,h1,h2,h3,h4,h5⟩:=binT_ok h s.hp;exact⟨_,_,h1,.val rfl (by simp only[aop,zU,h2,h3,h4,h5])⟩
def eqT_ok {h:THp} {cs ds:List TV}:∀ {sh:List (Nat×Sc)} {b:Bool},eqT cs ds sh=some b->zkd (cs.map (av1 h)) (ds.map (av1 h)) sh=some b
 | [],b,he=>he
 | (off,sc)::l,b,he=>by
  simp only[eqT] at he;split at he
  ·rename_i x y hx hy;split at he
   ·rename_i a b' ha hb;cases he;have h1:=eqT_ok (h:=h) hb;simp only[zkd,As,hx,hy,AQ,h1];have:zmO sc (av1 h x) (av1 h y)=some a:=by
     unfold eq1 at ha;split at ha
     ·cases ha;simp[av1,zmO,aI]
     ·cases ha;simp[av1,zmO,aB]
     ·cases ha;simp[av1,zmO,aS]
     ·cases ha
    rw[this]
   ·cases he
  ·cases he
def top_eqa {neg:Bool} {sh:List (Nat×Sc)} {x y:AOpd} (h:top C q ty (.eqa neg sh x y) d s k=some r):∃v hs,k v hs=some r∧qd S q (.eqa neg sh x y) d s v hs:=by
 simp only[top] at h;split at h
 ·rename_i cs ds hx hy;split at h
  ·rename_i b hb;have h1:=eqT_ok (h:=s.hp) hb;refine⟨_,_,h,.val rfl ?_⟩;simp only[aop,zU,hx,hy,av,av2,h1];cases neg<;>rfl
  ·cases h
 ·cases h
def top_eqn {sl neg:Bool} {x:AOpd} (h:top C q ty (.eqn sl neg x) d s k=some r):∃v hs,k v hs=some r∧qd S q (.eqn sl neg x) d s v hs:=by
 simp only[top] at h;split at h
 ·rename_i hx;exact⟨_,_,h,.val rfl (by simp only[aop,zU,hx,if_true,av_nl];rfl)⟩
 ·rename_i t xs hx;obtain⟨h1,h⟩:=qG h;refine⟨_,_,h,.val rfl ?_⟩;simp only[aop,zU,hx,if_true,av_sl];cases xs with
  | nil=>simp at h1
  | cons y ys=>simp only[Aw];rfl
 ·rename_i t y hx;obtain⟨h1,h⟩:=qG h;refine⟨_,_,h,.val rfl ?_⟩;simp only[aop,zU,hx,if_true];cases y with
  | none=>cases neg<;>rfl
  | some ys =>
   cases ys with
   | nil=>simp at h1
   | cons z zs=>cases neg<;>rfl
 ·rename_i y hx;refine⟨_,_,h,.val rfl ?_⟩;simp only[aop,zU,hx,Au,if_false];cases y<;>cases neg<;>rfl
 ·cases h
def top_un {op:UnOp} {x:AOpd} (h:top C q ty (.un op x) d s k=some r):∃v hs,k v hs=some r∧qd S q (.un op x) d s v hs:=by
 simp only[top] at h;split at h
 ·rename_i n hx;exact⟨_,_,h,.val rfl (by simp only[aop,zU,hx,av_i];rfl)⟩
 ·rename_i b hx;exact⟨_,_,h,.val rfl (by simp only[aop,zU,hx,av_b];rfl)⟩
 ·cases h
def top_cvi {kd:IntKind} {x:AOpd} (h:top C q ty (.cvi kd x) d s k=some r):∃v hs,k v hs=some r∧qd S q (.cvi kd x) d s v hs:=by
 simp only[top] at h;split at h
 ·rename_i n hx;exact⟨_,_,h,.val rfl (by simp only[aop,zU,hx,av_i];rfl)⟩
 ·rename_i n hx;exact⟨_,_,h,.val rfl (by simp only[aop,zU,hx,av_u];rfl)⟩
 ·rename_i n hx;exact⟨_,_,h,.val rfl (by simp only[aop,zU,hx,av_i];rfl)⟩
 ·rename_i n hx;exact⟨_,_,h,.val rfl (by simp only[aop,zU,hx,av_u];rfl)⟩
 ·rename_i n hx;exact⟨_,_,h,.val rfl (by simp only[aop,zU,hx,av_i];rfl)⟩
 ·rename_i n hx;exact⟨_,_,h,.val rfl (by simp only[aop,zU,hx];rfl)⟩
 ·cases h
def top_cvs {x:AOpd} (h:top C q ty (.cvs x) d s k=some r):∃v hs,k v hs=some r∧qd S q (.cvs x) d s v hs:=by
 simp only[top] at h;split at h
 ·rename_i b hx;exact⟨_,_,h,.val rfl (by simp only[aop,zU,hx,av_s];rfl)⟩
 ·cases h
def top_ifc {t:Nat} {x:AOpd} (h:top C q ty (.ifc t x) d s k=some r):∃v hs,k v hs=some r∧qd S q (.ifc t x) d s v hs:=by
 simp only[top] at h;split at h
 ·rename_i n hb hx;rw[zQ] at hb;subst hb;exact⟨_,_,h,.val rfl (by simp only[aop,zU,hx,av_i];rfl)⟩
 ·cases h
 ·split at h
  ·cases h
  ·exact⟨_,_,h,.wk (a:=.ifc t (s.toA.ev x)) rfl rfl (by simp only[aop]) (.ifc t _)⟩
 ·cases h
def lv2_of_lv {h:THp} {x:TV} (hl:lv h x=x) (hx:nofn x=true):lv2 h x=x∧zN h x=true:=by
 have:lv2 h x=x:=by cases x<;>first|exact hl|simp[nofn] at hx
 exact⟨this,by rw[←this];exact yh h x⟩
def top_mkfn {f:Nat} {caps:List AOpd} (h:top C q ty (.mkfn f caps) d s k=some r):∃v hs,k v hs=some r∧qd S q (.mkfn f caps) d s v hs:=by
 simp only[top] at h;split at h
 ·rename_i hb;have hb:=Af.1 hb;refine⟨_,_,h,.val rfl ?_⟩;have h1:∀x∈caps.map s.ev,lv2 s.hp x=x∧zN s.hp x=true:=fun x hx=>(by obtain⟨y,hy,rfl⟩:=Al.1 hx;exact lv2_of_lv (zat s y) (hb _ hx));rw[zbF,if_pos (Af.2 fun x hx=>(h1 x hx).2)];simp only[aop,A6];congr 3;refine Am fun y hy => ?_;have:=h1 (s.ev y) (Al.2 ⟨y,hy,rfl⟩);have aw:=hb _ (Al.2 ⟨y,hy,rfl⟩);simp only[Function.comp,zU,A2,this.1];cases hx:s.ev y<;>first|rfl|(rw[hx] at aw;simp[nofn] at aw)
 ·cases h
def lD {α:Type} {r:α} {n:Nat} {lo hi:Option AOpd} {f:Int->Int->Option α} (h:bndT s n lo hi f=some r):∃l u,bounds s.toA n lo hi=some (l.toNat,u.toNat)∧f l u=some r:=by
 unfold bndT at h;split at h
 ·rename_i u l hu hl;obtain⟨h1,h⟩:=qG h;refine⟨l,u, ?_,h⟩;have e1:(match (generalizing:=false) hi with|none=>some (n:Int)|some x=>zek (s.toA.ev x))=some u:=by
   cases hi with
   | none=>exact hu
   | some x=>have:=qa hu;simp only[zU,this];rfl
  have e2:(match (generalizing:=false) lo with|none=>some (0:Int)|some x=>zek (s.toA.ev x))=some l:=by
   cases lo with
   | none=>exact hl
   | some x=>have:=qa hl;simp only[zU,this];rfl
  have key:∀(a b:Option Int),a=some u->b=some l->(match a,b with|some h,some l=>if 0<=l∧l<=h∧h<=n then some (l.toNat,h.toNat) else none|_,_=>none)=some (l.toNat,u.toNat):=(by intro a b ha hb;subst ha;subst hb;simp only;rw[if_pos (of_decide_eq_true h1)])
  exact key _ _ e1 e2
 ·cases h
def z_ne (z:Nat):¬(z+1=0):=by omega
def top_slc {z:Nat} {x:AOpd} {lo hi:Option AOpd} (h:top C q ty (.slc z x lo hi) d s k=some r):∃v hs,k v hs=some r∧qd S q (.slc z x lo hi) d s v hs:=by
 simp only[top] at h;split at h
 ·rename_i b hx;obtain⟨l,u,hb,h⟩:=lD h;exact⟨_,_,h,.val rfl (by simp only[aop,zU,hx,if_true,av_s,hb];rfl)⟩
 ·rename_i z hx;obtain⟨l,u,hb,h⟩:=lD h;exact⟨_,_,h,.val rfl (by simp only[aop,zU,hx,if_neg (z_ne _),av_nl,hb];rfl)⟩
 ·rename_i z t xs hx;split at h
  ·rename_i hz;rw[zQ] at hz;obtain⟨l,u,hb,h⟩:=lD h;refine⟨_,_,h,.val rfl ?_⟩;simp only[aop,zU,hx,if_neg (z_ne _),av_sl,Aq];rw[if_pos hz];simp only[hb,Dz,hz,Av_sl,C8,C9]
  ·cases h
 ·rename_i z r' v hx;obtain⟨e1,e2⟩:=yU hx;split at h
  ·rename_i v' t xs hl;split at h
   ·rename_i hz;rw[zQ] at hz;obtain⟨l,u,hb,h⟩:=lD h;obtain⟨t',xs',bH⟩:=gF (jL rfl e2);have hv:v'=v:=by rw[hl] at bH;injection bH
    subst hv;refine⟨_,_,h,.val rfl ?_⟩;have e3:lv s.hp (.ls r' v' l.toNat (u.toNat-l.toNat))=.ls r' v' l.toNat (u.toNat-l.toNat):=by simp only[lv,lv2,lv1,hl,AZ]
    rw[j7 e3,av_ls hl];simp only[aop,e1,zdx hl,if_neg (z_ne _)];rw[if_pos hz];simp only[hb,Dz,hz,AY]
   ·cases h
  ·cases h
 ·rename_i z r' v off len hx;obtain⟨e1,e2⟩:=yU hx;split at h
  ·rename_i v' t xs hl;split at h
   ·rename_i hz;rw[zQ] at hz;obtain⟨l,u,hb,h⟩:=lD h;obtain⟨t',xs',bH⟩:=sl_ls (jL rfl e2);have hv:v'=v:=by rw[hl] at bH;injection bH
    subst hv;refine⟨_,_,h,.val rfl ?_⟩;have e3:lv s.hp (.ls r' v' (off+l.toNat) (u.toNat-l.toNat))=.ls r' v' (off+l.toNat) (u.toNat-l.toNat):=by simp only[lv,lv2,lv1,hl,AZ]
    rw[j7 e3,av_ls hl];simp only[aop,e1,av_ls hl,if_neg (z_ne _)];rw[if_pos hz];simp only[hb,Dz,hz]
   ·cases h
  ·cases h
 ·cases h
def top_fa {off:Nat} {x:AOpd} (h:top C q ty (.fa off x) d s k=some r):∃v hs,k v hs=some r∧qd S q (.fa off x) d s v hs:=by
 simp only[top] at h;split at h
 ·rename_i r' o hx;obtain⟨e1,e2⟩:=yU hx;obtain⟨cs,hl⟩:=sl_var (jL rfl e2);have e3:lv s.hp (.pv r' (o+off))=.pv r' (o+off):=by simp only[lv,lv2,lv1,hl]
  exact⟨_,_,h,.val rfl (by simp only[aop,e1,av_pv,j7 e3])⟩
 ·rename_i r' v i o hx;obtain⟨e1,e2⟩:=yU hx;obtain⟨t,xs,hl⟩:=kE (jL rfl e2);have e3:lv s.hp (.pe r' v i (o+off))=.pe r' v i (o+off):=by simp only[lv,lv2,lv1,hl,AZ]
  exact⟨_,_,h,.val rfl (by simp only[aop,e1,zky hl,j7 e3])⟩
 ·rename_i t y o hx;exact⟨_,_,h,.val rfl (by simp only[aop,zU,hx,av_ep,Av_ep])⟩
 ·cases h
def top_fld {off:Nat} {n:Option Nat} {x:AOpd} (h:top C q ty (.fld off n x) d s k=some r):∃v hs,k v hs=some r∧qd S q (.fld off n x) d s v hs:=by
 simp only[top] at h;split at h
 ·rename_i cs hx;obtain⟨e1,e2⟩:=yU hx;split at h
  ·rename_i v hv;obtain⟨p1,p2⟩:=zae (lv_ag e2) hv;refine⟨_,_,h,.val rfl ?_⟩;simp only[aop,e1];rw[show av s.hp (.ag cs)=.agg (cs.map (av1 s.hp)) from rfl];simp only[p1,j7 p2]
  ·cases h
 ·cases h
def ziL {i:AOpd} {n:Int} (h:(match s.ev i with | .i n=>some n | .u n=>some n|_=>none)=some n):∃kd,s.toA.ev i=.v (.int kd n):=by
 split at h
 ·rename_i m hx;cases h;exact⟨_,by rw[zU,hx];rfl⟩
 ·rename_i m hx;cases h;exact⟨_,by rw[zU,hx];rfl⟩
 ·cases h
def top_ia {z:Nat} {x i:AOpd} (h:top C q ty (.ia z x i) d s k=some r):∃v hs,k v hs=some r∧qd S q (.ia z x i) d s v hs:=by
 simp only[top] at h;split at h
 ·rename_i t xs n hx hi;obtain⟨kd,ei⟩:=ziL hi;split at h
  ·rename_i hz;rw[zQ] at hz;obtain⟨y,hy,h⟩:=ws h;obtain⟨h1,h2⟩:=zcx hy;refine⟨_,_,h,.val rfl ?_⟩;simp only[aop,zU s x,hx,av_sl,ei];rw[if_pos ⟨hz,h1⟩];simp only[As,h2,AQ,Av_ep]
  ·cases h
 ·rename_i t y0 n hx hi;obtain⟨kd,ei⟩:=ziL hi;split at h
  ·rename_i hz;rw[zQ] at hz;obtain⟨y,hy,h9⟩:=ws h;clear h;obtain⟨h1,h2⟩:=zcx hy;cases y0 with
   | none=>simp at h2
   | some xs =>refine⟨_,_,h9,.val rfl ?_⟩;rw[A7] at h2;have e0:av s.hp (.ns t (some xs))=.sl t.z (xs.map t.cells):=rfl;simp only[aop,zU s x,hx,e0,ei];rw[if_pos ⟨hz,h1⟩];simp only[As,h2,AQ,Av_ep]
  ·cases h
 ·rename_i r' v n hx hi;obtain⟨kd,ei⟩:=ziL hi;obtain⟨e1,e2⟩:=yU hx;split at h
  ·rename_i v' t xs hl;split at h
   ·rename_i hz;rw[zQ] at hz;obtain⟨h1,h⟩:=qG h;have h1:=of_decide_eq_true h1;obtain⟨t',xs',bH⟩:=gF (jL rfl e2);have hv:v'=v:=by rw[hl] at bH;injection bH
    subst hv;refine⟨_,_,h,.val rfl ?_⟩;have e3:lv s.hp (.pe r' v' n.toNat 0)=.pe r' v' n.toNat 0:=by simp only[lv,lv2,lv1,hl,AZ]
    rw[j7 e3,zky hl];simp only[aop,e1,zdx hl,ei];rw[if_pos ⟨hz,h1.1,h1.2⟩];simp only[hz,AY]
   ·cases h
  ·cases h
 ·rename_i r' v off len n hx hi;obtain⟨kd,ei⟩:=ziL hi;obtain⟨e1,e2⟩:=yU hx;split at h
  ·rename_i v' t xs hl;split at h
   ·rename_i hz;rw[zQ] at hz;obtain⟨h1,h⟩:=qG h;have h1:=of_decide_eq_true h1;obtain⟨t',xs',bH⟩:=sl_ls (jL rfl e2);have hv:v'=v:=by rw[hl] at bH;injection bH
    subst hv;refine⟨_,_,h,.val rfl ?_⟩;have e3:lv s.hp (.pe r' v' (off+n.toNat) 0)=.pe r' v' (off+n.toNat) 0:=by simp only[lv,lv2,lv1,hl,AZ]
    rw[j7 e3,zky hl];simp only[aop,e1,av_ls hl,ei];rw[if_pos ⟨hz,h1.1,h1.2⟩];simp only[hz]
   ·cases h
  ·cases h
 ·cases h
def top_ix {x i:AOpd} (h:top C q ty (.ix x i) d s k=some r):∃v hs,k v hs=some r∧qd S q (.ix x i) d s v hs:=by
 simp only[top] at h;split at h
 ·rename_i b n hx hi;obtain⟨kd,ei⟩:=ziL hi;obtain⟨y,hy,h⟩:=ws h;obtain⟨h1,h2⟩:=zcx hy;refine⟨_,_,h,.val rfl ?_⟩;simp only[aop,zU s x,hx,av_s,ei];rw[if_pos h1];rw[BK] at h2;simp only[h2,Av_u]
 ·cases h
def top_ext {i:Nat} {x:AOpd} (h:top C q ty (.ext x i) d s k=some r):∃v hs,k v hs=some r∧qd S q (.ext x i) d s v hs:=by
 simp only[top] at h;split at h
 ·rename_i vs hx;obtain⟨e1,e2⟩:=yU hx;split at h
  ·rename_i v hv;have h1:=lv_tp e2 v (Ae hv);refine⟨_,_,h,.val rfl ?_⟩;simp only[aop,e1];rw[show av s.hp (.tp vs)=.tup (vs.map (av2 s.hp)) from rfl];simp only[As,hv,AQ,j7 (zev h1)];congr 2;cases v<;>first|rfl|simp[lv2,lv1] at h1
  ·cases h
 ·cases h
def top_len {str:Bool} {x:AOpd} (h:top C q ty (.len str x) d s k=some r):∃v hs,k v hs=some r∧qd S q (.len str x) d s v hs:=by
 simp only[top] at h;split at h
 ·rename_i b hx;exact⟨_,_,h,.val rfl (by simp only[aop,zU,hx,if_true,av_s,Av_i])⟩
 ·rename_i hx;exact⟨_,_,h,.val rfl (by simp only[aop,zU,hx,Au,if_false,av_nl,Av_i])⟩
 ·rename_i t xs hx;exact⟨_,_,h,.val rfl (by simp only[aop,zU,hx,Au,if_false,av_sl,Av_i,Aq])⟩
 ·rename_i t y hx;cases y with
  | none=>exact⟨_,_,h,.val rfl (by
    have e0:av s.hp (.ns t none)=aN:=rfl;simp only[aop,zU,hx,Au,if_false,e0,aN,Av_i];rfl)⟩
  | some xs=>exact⟨_,_,h,.val rfl (by
    have e0:av s.hp (.ns t (some xs))=.sl t.z (xs.map t.cells):=rfl;simp only[aop,zU,hx,Au,if_false,e0,Av_i,Aq,A7])⟩
 ·rename_i r' v hx;split at h
  ·rename_i v' t xs hl;exact⟨_,_,h,.val rfl (by simp only[aop,zU,hx,Au,if_false,zdx hl,Av_i])⟩
  ·cases h
 ·rename_i r' v off n hx;split at h
  ·rename_i v' t xs hl;exact⟨_,_,h,.val rfl (by simp only[aop,zU,hx,Au,if_false,av_ls hl,Av_i])⟩
  ·cases h
 ·cases h
def top_pick {c a b:AOpd} (h:top C q ty (.pick c a b) d s k=some r):∃v hs,k v hs=some r∧qd S q (.pick c a b) d s v hs:=by
 simp only[top] at h;split at h
 ·rename_i x hx;cases x with
  | true=>exact⟨_,_,h,.val rfl (by simp only[aop,zU s c,hx,av_b,if_true,ev_Av])⟩
  | false=>exact⟨_,_,h,.val rfl (by simp only[aop,zU s c,hx,av_b,Au,if_false,ev_Av])⟩
 ·cases h
def top_max2 {x y:AOpd} (h:top C q ty (.max2 x y) d s k=some r):∃v hs,k v hs=some r∧qd S q (.max2 x y) d s v hs:=by
 simp only[top] at h;split at h
 ·rename_i a b hx hy;exact⟨_,_,h,.val rfl (by simp only[aop,zU,hx,hy,av_i,Av_i];rfl)⟩
 ·cases h
def zjw {zero:List Value} {z0:ty.den} (hu:zlY ty (zero.map cst)=some z0) (he:exq q (zero.map cst)=true):(zero.map AV.v=ty.cells z0∨q=false)∧PN (zero.map AV.v) (ty.cells z0):=by
 have h1:=w9 hu [];have e:(zero.map cst).map (av1 [])=zero.map AV.v:=by rw[A6];exact Am fun x _=>zkk _ x
 exact⟨(all_ex he).symm.imp (fun h=>by rw[←h1.ex h,e]) id,by have:=h1.pn;rwa [e] at this⟩
def EWk.of_pn {es:List (List AV)} {fs:List (List AV)} (hl:es.length=fs.length) (h:∀(i:Nat) (e f:List AV),es[i]? = some e->fs[i]? = some f->PN e f):EWk es fs :=
 ⟨hl,fun i e f he hf=>⟨(h i e f he hf).1,fun c x y hx hy=>((h i e f he hf).2 c x y hx hy).wk⟩⟩
def zjr {n d':Nat} {t:Ty} {xs:List t.den}:Av ((d',.row n t xs)::s.hp) (.lw d' n)=.lsl d' t.z 0 xs.length:=by
 have e:look d' .gone ((d',TB.row n t xs)::s.hp)=.row n t xs:=by rw[zp,if_pos rfl]
 have e3:lv ((d',TB.row n t xs)::s.hp) (.lw d' n)=.lw d' n:=by simp only[lv,lv2,lv1,e,AZ]
 rw[j7 e3,zdx e]
def top_mksl {z:Nat} {zero:List Value} {len cap:AOpd} (h:top C q ty (.mksl z zero len cap) d s k=some r):∃v hs,k v hs=some r∧qd S q (.mksl z zero len cap) d s v hs:=by
 simp only[top] at h;split at h
 ·rename_i z0 n c hf hz hu hn hc;obtain⟨hz,he⟩:=AL.1 hz;rw[zQ] at hz;obtain⟨h1,h⟩:=qG h;have h1:=of_decide_eq_true h1;obtain⟨f0,f1⟩:=kK hf;obtain⟨z1,z2⟩:=zjw hu he;refine⟨_,_,h,.row (a:=.lsl d ty.z 0 n.toNat) (es:=List.replicate n.toNat (zero.map AV.v)) rfl (.newR f0) (fun _=>by rw[qL (zcN d s.ctr ty .int _ [])];exact f1) ?_ (by rw[zjr,BV]) ?_⟩
  ·simp only[aop,qm,f0,blk,zU,hn,hc,av_i];rw[if_pos h1,hz]
  ·rw[B9];rcases z1 with z1|z1
   ·left;rw[z1]
   ·right;refine⟨z1,.of_pn (by simp) fun i e f hi hf => ?_⟩;obtain rfl:=Cy (Ae hi);obtain rfl:=Cy (Ae hf);exact z2
 ·cases h
def foldl_set (ps:List (Nat×List TV×ty.den)):∀ {es:List (List AV)} {xs:List ty.den},(∀p∈ps,UnOk s.hp ty p.2.1 p.2.2)->EWk es (xs.map ty.cells) ->
  EWk ((ps.map fun p=>(p.1,p.2.1.map (av1 s.hp))).foldl (fun es p=>es.set p.1 p.2) es) (((ps.map fun p=>(p.1,p.2.2)).foldl (fun es p=>es.set p.1 p.2) xs).map ty.cells):=by
 induction ps with
 | nil=>intro es xs _ h;exact h
 | cons p ps ih =>
  intro es xs hp h;simp only[Aw,Be];refine ih (fun p cp=>hp p (Ad _ cp)) ?_;have hu:=hp p Ak;refine⟨by simpa using h.1,fun j e f he hf => ?_⟩;rw[map_set] at hf;by_cases hj:p.1=j
  ·subst hj;simp only[B2,if_true] at he hf;split at he
   ·split at hf
    ·cases he;cases hf;exact⟨hu.pn.1,fun c x y hx hy=>(hu.pn.2 c x y hx hy).wk⟩
    ·cases hf
   ·cases he
  ·simp only[B2,if_neg hj] at he hf;exact h.2 j e f he hf
def wg (ps:List (Nat×List TV×ty.den)):∀ {xs:List ty.den},(∀p∈ps,p.2.1.map (av1 s.hp)=ty.cells p.2.2) ->
  (ps.map fun p=>(p.1,p.2.1.map (av1 s.hp))).foldl (fun es p=>es.set p.1 p.2) (xs.map ty.cells)=((ps.map fun p=>(p.1,p.2.2)).foldl (fun es p=>es.set p.1 p.2) xs).map ty.cells:=by
 induction ps with
 | nil=>intro xs _;rfl
 | cons p ps ih =>intro xs hp;simp only[Aw,Be];rw[hp p Ak,←map_set];exact ih fun p cp=>hp p (Ad _ cp)
def foldl_len {β:Type} (ps:List (Nat×β)):∀(es:List β),(ps.foldl (fun es p=>es.set p.1 p.2) es).length=es.length:=by
 induction ps with
 | nil=>intro es;rfl
 | cons p ps ih=>intro es;simp only[Be];rw[ih];simp
def zgE {h:THp} {y:TV} (hy:rf1 y=[]):(av1 h y).refs=[]:=by
 cases y with
 | e x=>cases x<;>simp[av1,Err.av,AV.refs,aI]
 | ns t x=>cases x<;>simp[av1,AV.refs,aN]
 | lw=>simp[rf1] at hy
 | ls=>simp[rf1] at hy
 | pe=>simp[rf1] at hy
 | pv=>simp[rf1] at hy
 | _=>simp[av1,AV.refs,aI,aU,aB,aS,aN,ud]
def rf2_refs {h:THp} {y:TV} (hy:rf2 y=[]):(av2 h y).refs=[]:=by
 cases y with
 | ag cs =>simp only[av2,AV.refs];refine AF.2 fun r0 eY => ?_;obtain⟨_,h1,h2⟩:=zh.1 eY;obtain⟨z,hz,rfl⟩:=Al.1 h1;rw[zgE (h:=h) (BB.1 hy z hz)] at h2;cases h2
 | _=>exact zgE (h:=h) (by simpa only[rf2] using hy)
def zee {h:THp} {x:TV} (hl:lv h x=x) (hr:rf x=[]):(av h x).refs=[]:=by
 have one:∀y,rf1 y=[]->(av1 h y).refs=[]:=by
  intro y hy;cases y with
  | e x=>cases x<;>simp[av1,Err.av,AV.refs,aI]
  | ns t x=>cases x<;>simp[av1,AV.refs,aN]
  | lw=>simp[rf1] at hy
  | ls=>simp[rf1] at hy
  | pe=>simp[rf1] at hy
  | pv=>simp[rf1] at hy
  | _=>simp[av1,AV.refs,aI,aU,aB,aS,aN,ud]
 have two:∀y,rf2 y=[]->(av2 h y).refs=[]:=by
  intro y hy;cases y with
  | ag cs =>simp only[av2,AV.refs];refine AF.2 fun r0 eY => ?_;obtain⟨_,h1,h2⟩:=zh.1 eY;obtain⟨z,hz,rfl⟩:=Al.1 h1;rw[one z (BB.1 hy z hz)] at h2;cases h2
  | _=>exact one _ (by simpa only[rf2] using hy)
 cases x with
 | tp cs =>simp only[av,AV.refs];refine AF.2 fun r0 eY => ?_;obtain⟨_,h1,h2⟩:=zh.1 eY;obtain⟨z,hz,rfl⟩:=Al.1 h1;rw[two z (BB.1 hr z hz)] at h2;cases h2
 | fn f cs =>simp only[av,AV.refs];refine AF.2 fun r0 eY => ?_;obtain⟨_,h1,h2⟩:=zh.1 eY;obtain⟨z,hz,rfl⟩:=Al.1 h1;rw[two z (BB.1 hr z hz)] at h2;cases h2
 | ag cs=>exact two (.ag cs) hr
 | _=>exact two _ (by simpa only[rf] using hr)
def zcw {α β γ:Type} {f:α->Option (γ×β)} {g:α->γ} (hf:∀a y,f a=some y->y.1=g a):∀ {l:List α} {ys:List (γ×β)},zd f l=some ys->l.map g=ys.map (·.1)
 | [],ys,h=>by simp only[zd,DM] at h;subst h;rfl
 | a::l,ys,h=>by
  simp only[zd] at h;split at h
  ·rename_i y zs h1 h2;cases h;simp only[Aw];rw[hf _ _ h1,zcw hf h2]
  ·cases h
def zeD {α:Type}:∀(qs:List (Nat×α)) (l1 l2:List α),l1.length=l2.length->(∀i,i<l1.length->i∈qs.map (·.1)∨l1[i]? = l2[i]?)->qs.foldl (fun es p=>es.set p.1 p.2) l1=qs.foldl (fun es p=>es.set p.1 p.2) l2
 | [],l1,l2,hl,h=>by
  show l1=l2;apply C2;intro i;by_cases hi:i<l1.length
  ·rcases h i hi with h|h
   ·simp at h
   ·exact h
  ·rw[Bu (by omega),Bu (by omega)]
 | p::qs,l1,l2,hl,h=>by
  simp only[Be];refine zeD qs _ _ (by simp[hl]) fun i hi => ?_;simp only[Cc] at hi;by_cases e:p.1=i
  ·right;subst e;rw[CB hi,CB (by omega)]
  ·rcases h i hi with h|h
   ·rw[Aw,Ar] at h;exact .inl (h.resolve_left (Ne.symm e))
   ·right;rw[Cr e,Cr e,h]
def bslT_ok {frz:Bool} {z:Nat} {zero:List Value} {len:Nat} {parts:List (Nat×AOpd)} (hr:(parts.flatMap fun p=>rf (s.ev p.2))=[]) (h:bslT q ty z zero len parts d s k=some r) :
  ∃v b,k v [(d,b)]=some r∧qd S q (.bslice frz z zero len parts) d s v [(d,b)]:=by
 unfold bslT at h;split at h
 ·rename_i z0 ps hf hz hu eu;obtain⟨hz,he⟩:=AL.1 hz;rw[zQ] at hz;obtain⟨f0,f1⟩:=kK hf
  -- the parts,with their cells
  have hex:∀(l:List (Nat×AOpd)) (ps:List (Nat×ty.den)),zd (fun (p:Nat×AOpd)=>match zaK (s.ev p.2) with|some cs=>(match exq q cs,zlY ty cs with|true,some x=>some (p.1,x)|_,_=>none)|none=>none) l=some ps ->
    ∃qs:List (Nat×List TV×ty.den),ps=qs.map (fun p=>(p.1,p.2.2))∧(∀p∈qs,UnOk s.hp ty p.2.1 p.2.2∧exq q p.2.1=true) ∧
     zd (fun (p:Nat×AOpd)=>match (s.toA.ev p.2).cells with|some cs=>(match zd (qo s.toA.hp) cs with|some cs=>if cs.length=z then some (p.1,cs) else none|none=>none)|none=>none) l=some (qs.map fun p=>(p.1,p.2.1.map (av1 s.hp))):=by
   intro l
   induction l with
   | nil=>intro ps h;simp only[zd,DM] at h;subst h;exact⟨[],rfl,by simp,rfl⟩
   | cons p l ih =>
    intro ps h;simp only[zd] at h;split at h
    ·rename_i y ys h1 h2;cases h;obtain⟨qs,k1,k2,k3⟩:=ih ys h2;split at h1
     ·rename_i cs hc;split at h1
      ·rename_i x hx o7;cases h1;obtain⟨c1,c2⟩:=zaJ (zat s p.2) hc;have dq:=w9 o7 s.hp;refine⟨(p.1,cs,x)::qs,by simp[k1],by simpa using ⟨⟨dq,hx⟩,fun a b c hm=>k2 (a,b,c) hm⟩, ?_⟩;have hs:∀y∈cs,qr s.hp y=y:=fun y hy=>(by have:=(dq.flat y hy);cases y<;>first|rfl|simp[zcZ,rf1] at this)
       have h3:zd (qo s.toA.hp) (cs.map (av1 s.hp))=some (cs.map (av1 s.hp)):=(by have:=(zbX (h:=s.hp) (cs:=cs) (fun y hy=>(c2 y hy).1) (by rw[Am hs,Cu];exact dq.flat)).1;rw[Am hs,Cu] at this;exact this);have hlen:(cs.map (av1 s.hp)).length=z:=by rw[dq.pn.1,yH,hz]
       have e1:=zU s p.2;simp only[zd,e1,c1,h3,if_pos hlen]
       erw [k3]
       rfl
      ·cases h1
     ·cases h1
    ·cases h
  obtain⟨qs,rfl,k2,k3⟩:=hex parts ps eu;have hrefs:qX s.toA parts=[]:=(by unfold qX;refine AF.2 fun r0 eY => ?_;obtain⟨_,h1,h2⟩:=zh.1 eY;obtain⟨p,hp,rfl⟩:=Al.1 h1;rw[zU,zee (zat s p.2) (BB.1 hr p hp)] at h2;cases h2);refine⟨_,_,h,.row (a:=.lsl d ty.z 0 len) (es:=(qs.map fun p=>(p.1,p.2.1.map (av1 s.hp))).foldl (fun es p=>es.set p.1 p.2) (List.replicate len (zero.map AV.v))) rfl (.newR f0) (fun _=>by rw[qL (zcN d s.ctr ty .int _ [])];exact f1) ?_ ?_ ?_⟩
  ·have e0:s.toA.hp d=none:=by rw[qm,f0];rfl
   simp only[aop,e0]
   erw [k3]
   simp only[hrefs,ASt.freezeL,or_true,if_true,hz]
  ·rw[zjr,foldl_len,BV]
  ·by_cases fb:exq q (zero.map cst)=true
   ·obtain⟨z1,z2⟩:=zjw hu fb;rcases z1 with z1|z1
    ·cases hq:q with
     | true =>left;have hx:∀p∈qs,p.2.1.map (av1 s.hp)=ty.cells p.2.2:=fun p hp=>(by obtain⟨a,b⟩:=k2 p hp;rw[hq] at b;exact a.ex (by simpa[exq] using b));rw[z1,←B9];exact wg qs hx
     | false =>right;refine⟨rfl,foldl_set qs (fun p hp=>(k2 p hp).1) ?_⟩;rw[z1,←B9];exact .rfl _
    ·right;refine⟨z1,foldl_set qs (fun p hp=>(k2 p hp).1) (.of_pn (by simp) fun i e f hi hf => ?_)⟩;rw[B9] at hf;obtain rfl:=Cy (Ae hi);obtain rfl:=Cy (Ae hf);exact z2
   ·have hq:q=true:=by
     cases q with
     | true=>rfl
     | false=>exact absurd rfl fb
    left;have hx:∀p∈qs,p.2.1.map (av1 s.hp)=ty.cells p.2.2:=fun p hp=>(by obtain⟨a,b⟩:=k2 p hp;rw[hq] at b;exact a.ex (by simpa[exq] using b));have kj:covB len (parts.map (·.1))=true:=by simpa[fb] using he
    have aO:parts.map (·.1)=(qs.map fun p=>(p.1,p.2.1.map (av1 s.hp))).map (·.1):=zcw (fun p y hy=>by
     split at hy
     ·split at hy
      ·split at hy
       ·cases hy;rfl
       ·cases hy
      ·cases hy
     ·cases hy) k3
    rw[zeD (qs.map fun p=>(p.1,p.2.1.map (av1 s.hp))) (List.replicate len (zero.map AV.v)) (List.replicate len (ty.cells z0)) (by simp) fun i hi => ?_]
    ·rw[←B9];exact wg qs hx
    ·left;rw[←aO];have:=Af.1 kj i (by simpa using hi);obtain⟨j,hj,e⟩:=BX.1 this;rw[zQ] at e;subst e;exact hj
 ·cases h
def zl4 {h:THp} {y:TV} (hy:zcZ y):qo (fun _=>none) (av1 h y)=some (av1 h y):=by
 have e1:av1 h y=av1 [] y:=by
  have h1:=hy.1;cases y with
  | ns t x=>cases x<;>rfl
  | _=>first|rfl|(simp[rf1] at h1;done)
 have e2:qr [] y=y:=(by have h1:=hy.1;cases y<;>first|rfl|(simp[rf1] at h1;done))
 have h3:=zgz (h:=[]) (yF hy) (by rw[e2];exact hy.2.2.2);rw[e2] at h3;rw[e1];exact h3
def zel {f:AV->Option AV}:∀ {l:List AV},(∀x∈l,f x=some x)->zd f l=some l
 | [],_=>rfl
 | x::l,h=>by simp only[zd,h x Ak,zel fun y hy=>h y (Ad _ hy)]
def top_lit {z:Nat} {zero:List Value} {len:Nat} {parts:List (Nat×AOpd)} (h:top C q ty (.lit z zero len parts) d s k=some r):∃v hs,k v hs=some r∧qd S q (.lit z zero len parts) d s v hs:=by
 simp only[top,litT] at h;split at h
 ·rename_i z0 ps hc hu eu;obtain⟨hc,he⟩:=AL.1 hc;obtain⟨hz,hr⟩:=AL.1 hc;rw[zQ] at hz
  have hex:∀(l:List (Nat×AOpd)) (ps:List (Nat×ty.den)),zd (fun (p:Nat×AOpd)=>match zaK (s.ev p.2) with|some cs=>(match exq true cs,zlY ty cs with|true,some x=>some (p.1,x)|_,_=>none)|none=>none) l=some ps ->
    ∃qs:List (Nat×List TV×ty.den),ps=qs.map (fun p=>(p.1,p.2.2))∧(∀p∈qs,p.2.1.map (av1 s.hp)=ty.cells p.2.2) ∧
     zd (fun (p:Nat×AOpd)=>match (s.toA.ev p.2).cells with|some cs=>(match zd (qo fun _=>none) cs with|some cs=>if cs.length=z then some (p.1,cs) else none|none=>none)|none=>none) l=some (qs.map fun p=>(p.1,p.2.1.map (av1 s.hp))):=by
   intro l
   induction l with
   | nil=>intro ps h;simp only[zd,DM] at h;subst h;exact⟨[],rfl,by simp,rfl⟩
   | cons p l ih =>
    intro ps h;simp only[zd] at h;split at h
    ·rename_i y ys h1 h2;cases h;obtain⟨qs,k1,k2,k3⟩:=ih ys h2;split at h1
     ·rename_i cs hc;split at h1
      ·rename_i x hx o7;cases h1;obtain⟨c1,c2⟩:=zaJ (zat s p.2) hc;have dq:=w9 o7 s.hp;have bq:cs.map (av1 s.hp)=ty.cells x:=dq.ex (by simpa[exq] using hx);refine⟨(p.1,cs,x)::qs,by simp[k1],by simpa using ⟨bq,fun a b c hm=>k2 (a,b,c) hm⟩, ?_⟩;have h3:zd (qo fun _=>none) (cs.map (av1 s.hp))=some (cs.map (av1 s.hp)):=zel fun x hx=>(by obtain⟨y,hy,rfl⟩:=Al.1 hx;exact zl4 (dq.flat y hy));have hlen:(cs.map (av1 s.hp)).length=z:=by rw[dq.pn.1,yH,hz]
       have e1:=zU s p.2;simp only[zd,e1,c1,h3,if_pos hlen]
       erw [k3]
       rfl
      ·cases h1
     ·cases h1
    ·cases h
  obtain⟨qs,rfl,hx,k3⟩:=hex parts ps eu;have bu:(qs.map fun p=>(p.1,p.2.1.map (av1 s.hp))).foldl (fun es p=>es.set p.1 p.2) (List.replicate len (zero.map AV.v))=((qs.map fun p=>(p.1,p.2.2)).foldl (fun es p=>es.set p.1 p.2) (List.replicate len z0)).map ty.cells:=by
   by_cases fb:exq true (zero.map cst)=true
   ·obtain⟨z1,z2⟩:=zjw (q:=true) hu fb;rcases z1 with z1|z1
    ·rw[z1,←B9];exact wg qs hx
    ·cases z1
   ·have kj:covB len (parts.map (·.1))=true:=by simpa[fb] using he
    have aO:parts.map (·.1)=(qs.map fun p=>(p.1,p.2.1.map (av1 s.hp))).map (·.1):=zcw (fun p y hy=>by
     split at hy
     ·split at hy
      ·split at hy
       ·cases hy;rfl
       ·cases hy
      ·cases hy
     ·cases hy) k3
    rw[zeD (qs.map fun p=>(p.1,p.2.1.map (av1 s.hp))) (List.replicate len (zero.map AV.v)) (List.replicate len (ty.cells z0)) (by simp) fun i hi => ?_]
    ·rw[←B9];exact wg qs hx
    ·left;rw[←aO];have:=Af.1 kj i (by simpa using hi);obtain⟨j,hj,e⟩:=BX.1 this;rw[zQ] at e;subst e;exact hj
  refine⟨_,_,h,.val rfl ?_⟩;simp only[aop]
  erw [k3]
  simp only[bu,hz];rfl
 ·cases h
def qd.pre {o:AOp} {v:TV} {hs h1:THp} (hq:q=false) (hc:(zb S).cv s.toA (s.push h1).toA) (h:qd S q o d (s.push h1) v hs):qd S q o d s v (hs++h1):=by
 obtain⟨h0,a,st1,k1,k2,k3⟩:=h;rw[wQ] at k1 k2;refine⟨h0++h1,a,st1,.inr ⟨hq, ?_⟩,k2,fun dst => ?_⟩
 ·rcases k1 with k1|⟨_,k1⟩
  ·rw[←k1];exact hc
  ·exact zhk hc k1
 ·have:=k3 dst;rw[jl] at this ⊢;rw[←wQ];simpa only[TSt.push,AP] using this
def zl0 {frz:Bool} {z:Nat} {zero:List Value} {len:Nat} {parts:List (Nat×AOpd)} (h:top C q ty (.bslice frz z zero len parts) d s k=some r):∃v hs,k v hs=some r∧qd S q (.bslice frz z zero len parts) d s v hs:=by
 simp only[top] at h;split at h
 ·rename_i hr;obtain⟨v,b,h1,h2⟩:=bslT_ok (S:=S) (frz:=frz) hr h;exact⟨_,_,h1,h2⟩
 ·split at h
  ·cases h
  ·split at h
   ·cases h
   ·rename_i h1 hfz;split at h
    ·rename_i hr;obtain⟨v,b,h2,h3⟩:=bslT_ok (S:=S) (frz:=frz) hr h;exact⟨_,_,h2,h3.pre rfl (zcL _ _ _ hfz)⟩
    ·cases h
def elemsT_ok {t:Ty} {v:TV} {ys:List t.den} (hl:lv s.hp v=v) (h:elemsT t s.hp v=some ys):wA s.toA.hp t.z (av s.hp v)=some (ys.map t.cells):=by
 unfold elemsT at h;cases v with
 | nl=>simp only[qr,dSl,DM] at h;subst h;rfl
 | sl t' xs=>obtain⟨rfl,rfl⟩:=zX h;simp only[av_sl,wA,if_true]
 | ns t' x =>
  cases x with
  | none=>obtain⟨rfl,rfl⟩:=zX h;rfl
  | some xs=>obtain⟨rfl,rfl⟩:=zX h;simp only[av,av2,av1,wA,if_true]
 | lw r' v =>obtain⟨t',xs,bH⟩:=gF (jL rfl hl);simp only[qr,bH,dSl] at h;obtain⟨rfl,rfl⟩:=zX h;rw[zdx bH];simp[wA,qm,bH,blk,Bx]
 | _=>simp[qr,dSl] at h
def top_app {z:Nat} {x y:AOpd} (h:top C q ty (.app z x y) d s k=some r):∃v hs,k v hs=some r∧qd S q (.app z x y) d s v hs:=by
 simp only[top] at h;split at h
 ·rename_i ys hz hy;rw[zQ] at hz;have mw:=elemsT_ok (zat s y) hy;rw[←hz] at mw;split at h
  ·rename_i hx;split at h
   ·rename_i hf;obtain⟨h1,h⟩:=qG h;have h1:=of_decide_eq_true h1;obtain⟨f0,f1⟩:=kK hf;refine⟨_,_,h,.heap (a:=.lsl d z 0 ys.length) rfl (.newR f0) (fun _=>by rw[qL (zcN d s.ctr ty .int _ [])];exact f1) ?_ (by rw[zjr,hz])⟩;simp only[aop,zU,mw,hx,av_nl,Aq];rw[if_pos h1,qm,f0];simp only[blk,hz]
   ·cases h
  ·rename_i r' v hx;obtain⟨e1,e2⟩:=yU hx;split at h
   ·rename_i v' t xs hl hb;obtain⟨cr,cO⟩:=AL.1 hb;have cr:zcj r'=false:=by simpa using cr
    split at h
    ·rename_i xs' hc;obtain⟨rfl,rfl⟩:=zX hc;obtain⟨h1,h⟩:=qG h;have h1:=of_decide_eq_true h1;refine⟨_,_,h,⟨[],.lsl r' z 0 (xs'.length+ys.length),(s.toA.scrub r').setH r' (some (.arr t.z ((xs'++ys).map t.cells))),.inl rfl,zax rfl ?_,fun dst=>.inl ?_⟩⟩
     ·rw[zav];simp only[aop,zU s y,mw,e1,zdx hl,qm,hl,blk,Aq];rw[if_pos ⟨cr,hz,hz,True.intro,h1⟩];simp only[Bc,hz]
     ·have e3:=zjr (s:=s) (n:=s.ctr) (d':=r') (t:=t) (xs:=xs'++ys);rw[AB,←hz] at e3;rw[jl,toA_app hl cO];show _=ASt.putO _ dst (Av ((r',TB.row s.ctr t (xs'++ys))::s.hp) (TV.lw r' s.ctr));rw[e3]
    ·cases h
   ·cases h
  ·cases h
 ·cases h
end
end
section
open Go Go.RowKit
def scr1g {h:THp} {r v:Nat} {t:Ty} {xs:List t.den} (h0:look r .gone h=.row v t xs) {y:TV} :
  zi ((r,.gone)::h) y=(zi h y && !((A1 h y).refs.contains r))∧(zi ((r,.gone)::h) y=true->A1 ((r,.gone)::h) y=A1 h y):=by
 have other:∀k,r≠k->look k .gone ((r,TB.gone)::h)=look k .gone h:=fun k hk=>by rw[zp,if_neg hk]
 have here:look r .gone ((r,TB.gone)::h)=.gone:=by rw[zp,if_pos rfl]
 have fin:∀(b:Bool) (a:AV),(b=true->r∉a.refs)->b=(b && !(a.refs.contains r)):=by
  intro b a ha;cases b with
  | false=>rfl
  | true=>simp[Bf,ha rfl]
 cases y with
 | lw k w =>
  by_cases hk:r=k
  ·subst hk;refine⟨?_,fun hl => ?_⟩
   ·simp only[zi,here,h0,A1,lv1];cases hb:w.beq v with
    | false=>rfl
    | true=>simp[av1,h0,AV.refs]
   ·simp only[zi,here] at hl;cases hl
  ·refine⟨?_,fun _ => ?_⟩
   ·rw[show zi ((r,TB.gone)::h) (.lw k w)=zi h (.lw k w) by simp only[zi,other k hk]];refine fin _ _ fun _ hm => ?_;have:=(by
     simp only[A1,lv1] at hm
     repeat' split at hm
     all_goals (first|(simp only[av1] at hm;repeat' split at hm)|skip)
     all_goals (simp[AV.refs] at hm)
     all_goals exact hm:r=k)
    exact hk this
   ·simp only[A1,lv1,other k hk]
    repeat' split
    all_goals simp only[av1,other k hk]
 | ls k w off len =>
  by_cases hk:r=k
  ·subst hk;refine⟨?_,fun hl => ?_⟩
   ·simp only[zi,here,h0,A1,lv1];cases hb:w.beq v with
    | false=>rfl
    | true=>simp[av1,h0,AV.refs]
   ·simp only[zi,here] at hl;cases hl
  ·refine⟨?_,fun _ => ?_⟩
   ·rw[show zi ((r,TB.gone)::h) (.ls k w off len)=zi h (.ls k w off len) by simp only[zi,other k hk]];refine fin _ _ fun _ hm => ?_;have:=(by
     simp only[A1,lv1] at hm
     repeat' split at hm
     all_goals (first|(simp only[av1] at hm;repeat' split at hm)|skip)
     all_goals (simp[AV.refs] at hm)
     all_goals exact hm:r=k)
    exact hk this
   ·simp only[A1,lv1,other k hk]
    repeat' split
    all_goals simp only[av1,other k hk]
 | pe k w i off =>
  by_cases hk:r=k
  ·subst hk;refine⟨?_,fun hl => ?_⟩
   ·simp only[zi,here,h0,A1,lv1];cases hb:w.beq v with
    | false=>rfl
    | true=>simp[av1,h0,AV.refs]
   ·simp only[zi,here] at hl;cases hl
  ·refine⟨?_,fun _ => ?_⟩
   ·rw[show zi ((r,TB.gone)::h) (.pe k w i off)=zi h (.pe k w i off) by simp only[zi,other k hk]];refine fin _ _ fun _ hm => ?_;have:=(by
     simp only[A1,lv1] at hm
     repeat' split at hm
     all_goals (first|(simp only[av1] at hm;repeat' split at hm)|skip)
     all_goals (simp[AV.refs] at hm)
     all_goals exact hm:r=k)
    exact hk this
   ·simp only[A1,lv1,other k hk]
    repeat' split
    all_goals simp only[av1,other k hk]
 | pv k off =>
  by_cases hk:r=k
  ·subst hk;exact⟨by simp only[zi,here,h0,Dw],fun hl=>by simp only[zi,here] at hl;cases hl⟩
  ·refine⟨?_,fun _ => ?_⟩
   ·rw[show zi ((r,TB.gone)::h) (.pv k off)=zi h (.pv k off) by simp only[zi,other k hk]];refine fin _ _ fun _ hm => ?_;have:=(by
     simp only[A1,lv1] at hm
     repeat' split at hm
     all_goals simp[av1,AV.refs] at hm
     all_goals exact hm:r=k)
    exact hk this
   ·simp only[A1,lv1,other k hk]
    repeat' split
    all_goals simp only[av1]
 | e x=>exact⟨by cases x<;>simp[zi,A1,lv1,av1,Err.av,AV.refs,aI],fun _=>rfl⟩
 | ns t x=>exact⟨by cases x<;>simp[zi,A1,lv1,av1,AV.refs,aN],fun _=>by cases x<;>rfl⟩
 | ag=>exact⟨rfl,fun _=>rfl⟩
 | tp=>exact⟨rfl,fun _=>rfl⟩
 | fn=>exact⟨rfl,fun _=>rfl⟩
 | _=>exact⟨by simp[zi,A1,lv1,av1,AV.refs,aI,aU,aB,aS,aN,ud],fun _=>rfl⟩
def scr2g {h:THp} {r v:Nat} {t:Ty} {xs:List t.den} (h0:look r .gone h=.row v t xs) {x:TV} :
  zN ((r,.gone)::h) x=(zN h x && !((A2 h x).refs.contains r))∧(zN ((r,.gone)::h) x=true->A2 ((r,.gone)::h) x=A2 h x):=by
 by_cases hx:leaf x=true
 ·have:=scr1g (y:=x) h0;simp only[qP hx,j8 hx];exact this
 ·cases x with
  | ag cs =>
   have h1:=fun y (hy:y∈cs)=>scr1g (y:=y) h0;have e:cs.all (zi ((r,.gone)::h))=(cs.all (zi h) && !(cs.any fun y=>(A1 h y).refs.contains r)):=jb fun y hy=>(h1 y hy).1;refine⟨?_,fun hl => ?_⟩
   ·simp only[zN];rw[e,yS];cases ha:cs.all (zi h) with
    | false=>rfl
    | true=>simp only[if_true,AV.refs,qF,CS,Bv];rfl
   ·simp only[zN] at hl;have fP:=hl;rw[e] at fP;rw[yS,yS,if_pos hl,if_pos (AL.1 fP).1,Am fun y hy=>(h1 y hy).2 (Af.1 hl y hy)]
  | tp=>exact⟨rfl,fun _=>rfl⟩
  | fn=>exact⟨rfl,fun _=>rfl⟩
  | _=>simp[leaf] at hx
def scr3g {h:THp} {r v:Nat} {t:Ty} {xs:List t.den} (h0:look r .gone h=.row v t xs) {x:TV} :
  Av ((r,.gone)::h) x=scrub r (Av h x):=by
 by_cases hx:leaf x=true
 ·rw[qN hx,qN hx];have key:=scr1g (y:=x) h0;have:=jR key.1 key.2;have e1:∀h:THp,(if zi h x=true then A1 h x else .bot)=A1 h x:=fun h=>by
   cases hb:zi h x with
   | true=>rfl
   | false=>rw[zbG hb];rfl
  rwa [e1,e1] at this
 ·have top:∀(cs:List TV),cs.all (zN ((r,.gone)::h))=(cs.all (zN h) && !(AV.refsL (cs.map (A2 h))).contains r) ∧
   (cs.all (zN ((r,.gone)::h))=true->cs.map (A2 ((r,.gone)::h))=cs.map (A2 h)):=by
   intro cs;have h1:=fun y (hy:y∈cs)=>scr2g (x:=y) h0;refine⟨?_,fun hl=>Am fun y hy=>(h1 y hy).2 (Af.1 hl y hy)⟩;simp only[qF,CS];exact jb fun y hy=>(h1 y hy).1
  cases x with
  | ag cs =>have h1:=fun y (hy:y∈cs)=>scr1g (y:=y) h0;have e:cs.all (zi ((r,.gone)::h))=(cs.all (zi h) && !((AV.agg (cs.map (A1 h))).refs.contains r)):=(by simp only[AV.refs,qF,CS];exact jb fun y hy=>(h1 y hy).1);rw[zdz,zdz];exact jR e fun hl=>by rw[Am fun y hy=>(h1 y hy).2 (Af.1 hl y hy)]
  | tp cs =>have:=top cs;rw[eT,eT];exact jR (by rw[AV.refs];exact this.1) fun hl=>by rw[this.2 hl]
  | fn f cs =>have:=top cs;rw[zbF,zbF];exact jR (by rw[AV.refs];exact this.1) fun hl=>by rw[this.2 hl]
  | _=>simp[leaf] at hx
def toA_gone {s:TSt} {r v:Nat} {t:Ty} {xs:List t.den} (h0:look r .gone s.hp=.row v t xs) :
  (s.push [(r,.gone)]).toA=(s.toA.scrub r).setH r none:=by
 have dG:(s.push [(r,.gone)]).toA.fr=(s.toA.scrub r).fr:=(by funext k;simp only[iB,TSt.push,AK,AJ,ASt.scrub];exact scr3g h0);have cy:(s.push [(r,.gone)]).toA.hp=upd (s.toA.scrub r).hp r none:=by
  funext k;simp only[qm,TSt.push,AK,AJ,upd,zp,ASt.scrub];by_cases hr:r=k
  ·subst hr;simp[blk]
  ·rw[if_neg hr,if_neg (Ne.symm hr)];cases hb:look k .gone s.hp with
   | var cs =>
    simp only[blk,AQ,zbe,DM,Blk.var.injEq,A6];refine Am fun y hy => ?_;simp only[Function.comp];by_cases hy:leaf y=true
    ·have:=scr3g h0 (x:=y)
     rwa [qN hy,qN hy] at this
    ·cases y<;>first|rfl|simp[leaf] at hy
   | _=>rfl
 show (⟨(s.push [(r,.gone)]).toA.fr,(s.push [(r,.gone)]).toA.hp⟩:ASt)=⟨(s.toA.scrub r).fr,upd (s.toA.scrub r).hp r none⟩;rw[dG,cy]
end
section
open Go Go.RowKit
section
variable {S:Seat} {q:Bool} {α:Type} {C:List CSpec} {ty:Ty} {d:Nat} {s:TSt} {k:TV->THp->Option α} {r:α}
def retK (S:Seat) (f:Nat) (as:List AV):(ks:List Nat)->(sh:Sh)->sh.den->Prop
 | [],sh,y=>(zb S).ret f as (encA sh y) []
 | [i],.own t,y=>(zb S).ret f as (.tup []) [(i,List.map t.cells y)]
 | _,_,_=>True
def zK (S:Seat) (C:List CSpec):Prop:=∀c∈C,∀x y,c.fn x=some y->retK S c.f (encAL c.sig x) (jx c.muts) c.res y
def wk_own {x y:AV} (h:Wk (fun _=>False) x y) (hy:zG y=true):x=y:=by
 cases h with
 | rfl=>rfl
 | _=>simp[zG] at hy
def ret_wk {f:Nat} {as bs:List AV} {r:AV} {outs:zdy} (hp:PK as bs) (hn:∀(i:Nat) (x y:AV),as[i]? = some x->bs[i]? = some y->zG x=zG y) (h:(zb S).ret f bs r outs):(zb S).ret f as r outs:=by
 intro g hg;intro A w vs ι hl hA hι hJ ha;have ho:∀(i:Nat) (x y:AV),as[i]? = some x->bs[i]? = some y->zG y=true->x=y:=fun i x y hx hy h=>wk_own (hp.2 i x y hx hy) h;refine (h g hg A w vs ι (by rw[hl,hp.1]) hA ⟨fun i b hb=>by rw[←hp.1];exact hι.1 i b hb,hι.2⟩ hJ fun i y hy => ?_).mono ?_
 ·obtain⟨x,hx⟩:=zL hp.1 hy;have h1:=ha i x hx;cases hq:zG y with
  | true=>rw[←ho i x y hx hy hq];exact h1
  | false =>obtain⟨k1,k2⟩:=kH h1 ((hn i x y hx hy).trans hq);rw[k1];exact qY (k2.wk (hp.2 i x y hx hy))
 ·rintro e w' ⟨v,he,hk,hj,β,hβ,ay,hT,hr⟩;refine⟨v,he,hk,hj,β,hβ,ay,fun i es z bm hm hx => ?_,hr⟩;have aj:i<bs.length:=by rw[←hp.1];exact (Ac.1 hx).1
  have hy:=Aa aj;have h1:=hn i _ _ hx hy;have h2:=ho i _ _ hx hy h1.symm;exact hT i es z bm hm (by rw[hy,←h2])
def retK_wk {f:Nat} {as bs:List AV} (hp:PK as bs) (hn:∀(i:Nat) (x y:AV),as[i]? = some x->bs[i]? = some y->zG x=zG y):∀(ks:List Nat) (sh:Sh) (y:sh.den),retK S f bs ks sh y->retK S f as ks sh y
 | [],_,_,h=>ret_wk hp hn h
 | [i],sh,y,h=>by
  cases sh with
  | own t=>exact ret_wk hp hn h
  | _=>trivial
 | _::_::_,sh,y,_=>by cases sh<;>trivial
def zeU {t:Ty} (ht:Sh.flat (.st t)=true) (x:t.den):(t.cells x).all AV.plain1=true:=by cases t<;>first|rfl|(simp[Sh.flat] at ht;done)
def zka {sh:Sh} (h:sh.flat=true) (x:sh.den):(encA sh x).plain2=true:=by
 cases sh with
 | err=>cases x<;>rfl
 | st t=>exact zeU h x
 | int=>rfl
 | u8=>rfl
 | bool=>rfl
 | str=>rfl
 | _=>simp[Sh.flat] at h
def zeO {P:AV->Bool}:∀ {l:List Sh} (x:Sh.denL l),(∀sh∈l,∀y:sh.den,P (encA sh y)=true)->(encAL l x).all P=true
 | [],_,_=>rfl
 | [sh],x,h=>by simp only[encAL,Bg,all_nil,CJ];exact h sh (by simp) x
 | sh::bZ::l,x,h=>by
  simp only[encAL,Bg,Ai];refine⟨h sh (by simp) _, ?_⟩;have:=zeO (P:=P) (l:=bZ::l) x.2 fun sh hs=>h sh (Ad _ hs);exact this
def plain_ok {sh:Sh} (h:sh.plain=true) (x:sh.den):(encA sh x).plain=true:=by
 cases sh with
 | tp l =>simp only[Sh.plain] at h;exact zeO x fun sh hs y=>zka (Af.1 h sh hs) y
 | unit=>rfl
 | err=>cases x<;>rfl
 | st t=>exact zeU h x
 | int=>rfl
 | u8=>rfl
 | bool=>rfl
 | str=>rfl
 | _=>simp[Sh.plain,Sh.flat] at h
def zeM {sh:Sh} (cq:∀t,sh≠.own t) (hnf:∀f l,sh≠.fnc f l) (ez:∀l,sh≠.tp l) (hnu:sh≠.unit) (x:sh.den) (h:THp):lv2 h (enc sh x)=enc sh x∧av2 h (enc sh x)=encA sh x∧(∀y∈jf (enc sh x),rf1 y=[]):=by
 cases sh with
 | own t=>exact absurd rfl (cq t)
 | fnc f l=>exact absurd rfl (hnf f l)
 | tp l=>exact absurd rfl (ez l)
 | unit=>exact absurd rfl hnu
 | err=>exact⟨rfl,rfl,by simp[enc,jf,rf1]⟩
 | st t =>obtain⟨t1,t2⟩:=gG t x h;refine⟨mk_ag fun y hy=>yF (t2 y hy).1, ?_,fun y hy=>(t2 y hy).1.1⟩;simp only[enc,av2,encA,t1]
 | ns t=>cases x<;>exact⟨rfl,rfl,by simp[enc,jf,rf1]⟩
 | _=>exact⟨rfl,rfl,by simp[enc,jf,rf1]⟩
def zmw {d' n m:Nat} {t:Ty} {xs:List t.den} (hf:zcF d n s=true) (ah:d'≠d):zcF d n (s.push [(d',.row m t xs)])=true:=by simp only[zcF,jY,TSt.push,AK,AJ,zp,if_neg ah,Bg,Bv] at hf ⊢;exact hf
def zlw (h:THp):∀(l:List Sh) (x:Sh.denL l),(l.all fun x=>x.ans1 && !x.own1)=true->(∀y∈wF l x,zN h y=true)∧(wF l x).map (A2 h)=encAL l x∧(encAL l x).all (fun x => !zG x)=true:=by
 have two:∀(sh:Sh) (x:sh.den),(sh.ans1 && !sh.own1)=true->zN h (enc sh x)=true∧A2 h (enc sh x)=encA sh x∧zG (encA sh x)=false:=by
  intro sh x h0;simp only[Ai,AU] at h0;have g:(∀t,sh≠.own t)∧(∀f l,sh≠.fnc f l)∧(∀l,sh≠.tp l)∧sh≠.unit:=(by refine⟨fun t e => ?_,fun f l e => ?_,fun l e => ?_,fun e => ?_⟩<;>(subst e;first|(simp[Sh.own1] at h0;done)|(simp[Sh.ans1] at h0;done)))
  obtain⟨e1,e2,_⟩:=zeM g.1 g.2.1 g.2.2.1 g.2.2.2 x h;refine⟨by rw[←e1];exact yh _ _,by rw[A2,e1,e2], ?_⟩;cases sh with
  | own t=>exact absurd rfl (g.1 t)
  | err=>cases x<;>rfl
  | ns t=>cases x<;>rfl
  | _=>rfl
 intro l
 induction l with
 | nil=>intro x _;exact⟨by simp[wF],rfl,rfl⟩
 | cons sh l ih =>
  intro x hl;simp only[Bg,Ai] at hl;cases l with
  | nil =>obtain⟨k1,k2,k3⟩:=two sh x (by simpa using hl.1);exact⟨by simp[wF,k1],by simp[wF,encAL,k2],by simp[encAL,k3]⟩
  | cons bZ l =>
   obtain⟨k1,k2,k3⟩:=two sh x.1 (by simpa using hl.1);obtain⟨m1,m2,m3⟩:=ih x.2 (by simpa using hl.2);refine⟨fun y hy => ?_,by simp only[wF,encAL,Aw,k2,m2],by simp only[encAL,Bg,k3,m3];rfl⟩;simp only[wF] at hy;rcases Ar.1 hy with rfl|hy
   ·exact k1
   ·exact m1 y hy
def opnL_ok:∀(l:List Sh) (i:Nat) (x:Sh.denL l) {s:TSt} {n:Nat} {ys:List TV} {hs:THp},l.all Sh.ans1=true->zir s n d i l x=some (ys,hs) ->
  ∃zs,zdq d i (encAL l x) s.toA=some (zs,(s.push hs).toA)∧zs=ys.map (A2 (hs++s.hp))∧(∀y∈ys,zN (hs++s.hp) y=true)∧(∀r,(∀j,r≠d+10000*(i+1+j))->look r .gone (hs++s.hp)=look r .gone s.hp):=by
 have one:∀(sh:Sh) (x:sh.den) (i:Nat) {s:TSt} {n:Nat},sh.ans1=true->(∀t,sh≠.own t)->(∀(r:List AV),zdq d i (encA sh x::r) s.toA=match zdq d (i+1) r s.toA with|some (ys,aa)=>some (encA sh x::ys,aa)|none=>none):=by
  intro sh x i s n h1 h2 r;cases sh with
  | own t=>exact absurd rfl (h2 t)
  | ns t=>cases x<;>rfl
  | err=>cases x<;>rfl
  | _=>rfl
 have good:∀(sh:Sh),sh.ans1=true->(∀f l,sh≠.fnc f l)∧(∀l,sh≠.tp l)∧sh≠.unit:=(by intro sh h;refine⟨fun f l e => ?_,fun l e => ?_,fun e => ?_⟩<;>(subst e;simp[Sh.ans1] at h))
 have nonown:∀(sh:Sh) (x:sh.den) (hp:THp),sh.ans1=true->(∀t,sh≠.own t)->A2 hp (enc sh x)=encA sh x∧zN hp (enc sh x)=true:=(by intro sh x hp h1 h2;obtain⟨g1,g2,g3⟩:=good sh h1;obtain⟨e1,e2,_⟩:=zeM h2 g1 g2 g3 x hp;refine⟨by rw[A2,e1,e2],by rw[←e1];exact yh _ _⟩);intro l
 induction l with
 | nil =>intro i x s n ys hs _ h;simp only[zir,DM,DN] at h;obtain⟨rfl,rfl⟩:=h;exact⟨[],rfl,rfl,by simp,fun r _=>rfl⟩
 | cons sh l ih =>
  intro i x s n ys hs hall h;simp only[Bg,Ai] at hall;by_cases ho:∃t,sh=.own t
  ·obtain⟨t,rfl⟩:=ho;cases l with
   | nil =>
    simp only[zir] at h;split at h
    ·rename_i hf;simp only[DM,DN] at h;obtain⟨rfl,rfl⟩:=h;obtain⟨f0,f1⟩:=kK hf;have e:=zaP (s:=s) (d:=d+10000*(i+1)) (b:=.row n t x) (.newR f0) fun _=>by rw[qL (zcN _ n t .int _ [])];exact f1
     have hl:look (d+10000*(i+1)) .gone ((d+10000*(i+1),TB.row n t x)::s.hp)=.row n t x:=by rw[zp,if_pos rfl]
     refine⟨[.lsl (d+10000*(i+1)) t.z 0 x.length], ?_, ?_, ?_,fun r hr => ?_⟩
     ·simp only[encAL,encA,zdq];have e0:s.toA.hp (d+10000*(i+1))=none:=by rw[qm,f0];rfl
      simp only[e0,e,Aq];rfl
     ·simp only[Aw,Bn,AK,AJ];rw[j8 rfl,A1];simp only[lv1,hl,AZ,av1]
     ·intro y hy;simp only[Ah] at hy;subst hy;simp only[AK,AJ,zN,zi,hl,AZ]
     ·simp only[AK,AJ,zp];rw[if_neg];exact fun e=>hr 0 (by omega)
    ·cases h
   | cons bZ l =>
    simp only[zir] at h;split at h
    ·rename_i bU ae hf aX;simp only[DM,DN] at h;obtain⟨rfl,rfl⟩:=h;obtain⟨f0,f1⟩:=kK hf;have e:=zaP (s:=s) (d:=d+10000*(i+1)) (b:=.row n t x.1) (.newR f0) fun _=>by rw[qL (zcN _ n t .int _ [])];exact f1
     -- the rest,behind this row
     have mono:∀(l:List Sh) (i':Nat) (x':Sh.denL l) (ys:List TV) (hs:THp),i<i'->zir s n d i' l x'=some (ys,hs)->zir (s.push [(d+10000*(i+1),.row n t x.1)]) n d i' l x'=some (ys,hs):=by
      intro l
      induction l with
      | nil=>intro i' x' ys hs _ h;exact h
      | cons sh l ihl =>
       intro i' x' ys hs hi h;have dG:∀ {b},zcF (d+10000*(i'+1)) n s=b->b=true->zcF (d+10000*(i'+1)) n (s.push [(d+10000*(i+1),.row n t x.1)])=true:=fun h hb=>(by subst hb;exact zmw h (by omega));by_cases ho:∃t,sh=.own t
       ·obtain⟨t',rfl⟩:=ho;cases l with
        | nil =>
         simp only[zir] at h ⊢;split at h
         ·rename_i hb;rw[dG hb rfl];exact h
         ·cases h
        | cons bZ l =>
         simp only[zir] at h ⊢;split at h
         ·rename_i bU ae hb aX;rw[dG hb rfl,ihl (i'+1) _ _ _ (by omega) aX];exact h
         ·cases h
       ·cases l with
        | nil=>cases sh with
         | own t=>exact absurd ⟨t,rfl⟩ ho
         | _=>exact h
        | cons bZ l =>
         cases sh with
         | own t=>exact absurd ⟨t,rfl⟩ ho
         | _ =>
          simp only[zir] at h ⊢;split at h
          ·rename_i bU ae aX;rw[ihl (i'+1) _ _ _ (by omega) aX];exact h
          ·cases h
     have l6:=mono (bZ::l) (i+1) x.2 bU ae (by omega) aX;obtain⟨zs,k1,k2,k3,k4⟩:=ih (i+1) x.2 hall.2 l6;have nG:ae++(s.push [(d+10000*(i+1),.row n t x.1)]).hp=(ae++[(d+10000*(i+1),.row n t x.1)])++s.hp:=by simp[TSt.push]
     rw[nG] at k2 k3 k4;have hl:look (d+10000*(i+1)) .gone ((ae++[(d+10000*(i+1),.row n t x.1)])++s.hp)=.row n t x.1:=(by rw[k4 _ (fun j=>by omega)];simp only[TSt.push,AK,AJ,zp,if_true]);refine⟨.lsl (d+10000*(i+1)) t.z 0 (List.length x.1)::zs, ?_, ?_, ?_,fun r hr => ?_⟩
     ·simp only[encAL,encA,zdq];have e0:s.toA.hp (d+10000*(i+1))=none:=by rw[qm,f0];rfl
      have e':s.toA.setH (d+10000*(i+1)) (some (.arr t.z (List.map t.cells x.1)))=(s.push [(d+10000*(i+1),.row n t x.1)]).toA:=by rw[e];rfl
      simp only[e0,e',k1,Aq,wQ]
     ·simp only[Aw,←k2];rw[j8 rfl,A1];simp only[lv1,hl,AZ,av1]
     ·intro y hy;rcases Ar.1 hy with rfl|hy
      ·simp only[zN,zi,hl,AZ]
      ·exact k3 y hy
     ·rw[k4 r fun j e=>hr (j+1) (by omega)];simp only[TSt.push,AK,AJ,zp];rw[if_neg];exact fun e=>hr 0 (by omega)
    ·cases h
  ·have cq:∀t,sh≠.own t:=fun t e=>ho ⟨t,e⟩;cases l with
   | nil =>
    have h':some ([enc sh x],([]:THp))=some (ys,hs):=by
     cases sh with
     | own t=>exact absurd rfl (cq t)
     | _=>exact h
    simp only[DM,DN] at h';obtain⟨rfl,rfl⟩:=h';obtain⟨n1,n2⟩:=nonown sh x s.hp hall.1 cq;refine⟨[encA sh x], ?_,by simp[n1],by simp[n2],fun r _=>rfl⟩;simp only[encAL];rw[one sh x i hall.1 cq (s:=s) (n:=0)];rfl
   | cons bZ l =>
    have h':(match zir s n d (i+1) (bZ::l) x.2 with|some (ys,hs)=>some (enc sh x.1::ys,hs)|none=>none)=some (ys,hs):=by
     cases sh with
     | own t=>exact absurd rfl (cq t)
     | _=>exact h
    split at h'
    ·rename_i bU ae aX;simp only[DM,DN] at h';obtain⟨rfl,rfl⟩:=h';obtain⟨zs,k1,k2,k3,k4⟩:=ih (i+1) x.2 hall.2 aX;obtain⟨n1,n2⟩:=nonown sh x.1 (ae++s.hp) hall.1 cq;refine⟨encA sh x.1::zs, ?_,by simp[n1,k2], ?_,fun r hr=>k4 r fun j e=>hr (j+1) (by omega)⟩
     ·simp only[encAL];rw[one sh x.1 i hall.1 cq (s:=s) (n:=0),k1]
     ·intro y hy;rcases Ar.1 hy with rfl|hy
      ·exact n2
      ·exact k3 y hy
    ·cases h'
def opn_ok {sh:Sh} {x:sh.den} {n:Nat} {v:TV} {hs:THp} (ha:sh.ansC=true) (h:opn s n d sh x=some (v,hs)):imp d (encA sh x) s.toA=some (Av (hs++s.hp) v,(s.push hs).toA):=by
 have other:(∀t,sh≠.own t)->(∀f l,sh≠.fnc f l)->(∀l,sh≠.tp l)->sh≠.unit->v=enc sh x∧hs=[]->imp d (encA sh x) s.toA=some (Av (hs++s.hp) v,(s.push hs).toA):=by
  rintro h1 h2 h3 h4 ⟨rfl,rfl⟩;obtain⟨e1,e2,_⟩:=zeM h1 h2 h3 h4 x s.hp;have e3:Av s.hp (enc sh x)=encA sh x:=by
   rw[j7 (zev e1),←e2];cases he:enc sh x with
   | tp=>rw[he] at e1;simp[lv2,lv1] at e1
   | fn=>rw[he] at e1;simp[lv2,lv1] at e1
   | _=>rfl
  simp only[AJ,e3,zav];cases sh with
  | own t=>exact absurd rfl (h1 t)
  | fnc f l=>exact absurd rfl (h2 f l)
  | tp l=>exact absurd rfl (h3 l)
  | unit=>exact absurd rfl h4
  | err=>cases x<;>rfl
  | ns t=>cases x<;>rfl
  | _=>rfl
 cases sh with
 | own t =>
  simp only[opn] at h;split at h
  ·rename_i hf;simp only[DM,DN] at h;obtain⟨rfl,rfl⟩:=h;obtain⟨f0,f1⟩:=kK hf;have e:=zaP (s:=s) (d:=d) (b:=.row n t x) (.newR f0) fun _=>by rw[qL (zcN _ n t .int _ [])];exact f1
   have e0:s.toA.hp d=none:=by rw[qm,f0];rfl
   have e3:=zjr (s:=s) (n:=n) (d':=d) (t:=t) (xs:=x);simp only[encA,imp,e0,Aq,AK,AJ,e3,e];rfl
  ·cases h
 | tp l =>
  simp only[opn] at h;split at h
  ·rename_i ys ae aX;simp only[DM,DN] at h;obtain⟨rfl,rfl⟩:=h;obtain⟨zs,k1,k2,k3,_⟩:=opnL_ok l 0 x ha aX;simp only[encA,imp,k1];rw[eT,if_pos (Af.2 k3),k2]
  ·cases h
 | unit=>simp only[opn,DM,DN] at h;obtain⟨rfl,rfl⟩:=h;rfl
 | fnc f l =>simp only[opn,DM,DN] at h;obtain⟨rfl,rfl⟩:=h;obtain⟨k1,k2,_⟩:=zlw ([]++s.hp) l x ha;simp only[encA,enc,imp];rw[zbF,if_pos (Af.2 k1),k2,zav]
 | _=>simp only[opn,DM,DN] at h;exact other (by simp) (by simp) (by simp) (by simp) ⟨h.1.symm,h.2.symm⟩
def zld {sh:Sh} (h:sh.owns=false) (x:sh.den):iz (encA sh x)=true:=by
 have one:∀(sh:Sh),sh.own1=false->∀x:sh.den,(!zG (encA sh x))=true:=by
  intro sh h x;cases sh with
  | own t=>simp[Sh.own1] at h
  | err=>cases x<;>rfl
  | ns t=>cases x<;>rfl
  | _=>rfl
 cases sh with
 | own t=>simp[Sh.owns] at h
 | tp l=>exact zeO x fun sh hs y=>one sh (zaO h sh hs) y
 | err=>cases x<;>rfl
 | ns t=>cases x<;>rfl
 | _=>rfl
def noOwn_hs {sh:Sh} {x:sh.den} {n:Nat} {v:TV} {hs:THp} (ho:sh.owns=false) (h:opn s n d sh x=some (v,hs)):(s.push hs).toA=s.toA:=by
 have nil:hs=[]:=by
  cases sh with
  | own t=>simp[Sh.owns] at ho
  | tp l =>
   simp only[opn] at h;split at h
   ·rename_i ys ae aX;simp only[DM,DN] at h;obtain⟨rfl,rfl⟩:=h;have:∀(l:List Sh) (i:Nat) (x:Sh.denL l) (ys:List TV) (hs:THp),l.any Sh.own1=false->zir s n d i l x=some (ys,hs)->hs=[]:=by
     intro l
     induction l with
     | nil=>intro i x ys hs _ h;simp only[zir,DM,DN] at h;exact h.2.symm
     | cons sh l ih =>
      intro i x ys hs ho h;simp only[Cf,B0] at ho;cases l with
      | nil=>cases sh with
       | own t=>simp[Sh.own1] at ho
       | _=>simp only[zir,DM,DN] at h;exact h.2.symm
      | cons bZ l =>
       cases sh with
       | own t=>simp[Sh.own1] at ho
       | _ =>
        simp only[zir] at h;split at h
        ·rename_i bU ae aX;simp only[DM,DN] at h;rw[←h.2];exact ih (i+1) _ _ _ ho.2 aX
        ·cases h
    exact this l 0 x _ _ ho aX
   ·cases h
  | _=>simp only[opn,DM,DN] at h;exact h.2.symm
 subst nil;rfl
def zdo (S:Seat) (q frz:Bool) (f:Nat) (vs:List TV) (d:Nat) (s:TSt) (a:AV) (st1:ASt):Prop :=
 if q=true then st1=s.toA∧zjq (zb S) f (vs.map (av s.hp)) s.toA a else zbE (zb S) frz [] f (vs.map (av s.hp)) d s.toA a st1
def zaH {h:THp} {sh:Sh} {v:TV} {x:sh.den} (hd:dec h sh v=some x):zG (encA sh x)=false:=by
 cases sh with
 | own t=>simp[dec] at hd
 | err=>cases x<;>rfl
 | ns t=>cases x<;>rfl
 | _=>rfl
def zgc {h:THp}:∀ {l:List Sh} {vs:List TV} {x:Sh.denL l},bz h l vs=some x->∀y∈encAL l x,zG y=false
 | [],[],_,_,y,hy=>by simp[encAL] at hy
 | [],_::_,_,hd,_,_=>by simp[bz] at hd
 | [sh],[],_,hd,_,_=>by simp[bz] at hd
 | [sh],[v],x,hd,y,hy=>by
  simp only[bz] at hd;simp only[encAL,Ah] at hy;subst hy;exact zaH hd
 | [sh],_::_::_,_,hd,_,_=>by simp[bz] at hd
 | sh::bZ::l,[],_,hd,_,_=>by simp[bz] at hd
 | sh::bZ::l,v::vs,x,hd,y,hy=>by
  simp only[bz] at hd;split at hd
  ·rename_i a b h1 h2;cases hd;simp only[encAL] at hy;rcases Ar.1 hy with rfl|hy
   ·exact zaH h1
   ·exact zgc h2 y hy
  ·cases hd
def ansT_ok {frz:Bool} {f:Nat} {c:CSpec} {x:Sh.denL c.sig} {vs:List TV} (hC:∀x y,c.fn x=some y->(zb S).ret c.f (encAL c.sig x) (encA c.res y) []) (hf:c.f=f) (hl:∀v∈vs,lv s.hp v=v) (hd:bz s.hp c.sig vs=some x)
  (hp:c.res.plain=true∨vs.flatMap rf=[]) (h:ansT q c d s x k=some r):∃v hs a st1,k v hs=some r∧zdo S q frz f vs d s a st1∧∀dst:Option Nat,st1.putO dst a=((s.push hs).putO dst v).toA:=by
 unfold ansT at h;split at h
 ·cases h
 ·rename_i az;simp only[B0,Bool.not_eq_false'] at az;obtain⟨ho,ha⟩:=az;have main:∀y,c.fn x=some y->(match opn s s.ctr d c.res y with|some (v,hs)=>k v hs|none=>none)=some r->∃v hs a st1,k v hs=some r∧zdo S q frz f vs d s a st1∧∀dst:Option Nat,st1.putO dst a=((s.push hs).putO dst v).toA:=by
   intro y hy h;split at h
   ·rename_i v hs dO;have himp:=opn_ok ha dO;obtain⟨as,h1,h2⟩:=decL_ok hl hd;have bo:(zb S).ret f as (encA c.res y) []:=(by rw[←hf];refine ret_wk h2 (fun i a b ha hb => ?_) (hC x y hy);rw[zgc hd b (Ae hb)];obtain⟨x0,_,aH⟩:=(zD h1).2 i a ha;exact wM aH);have hrefs:vs.flatMap rf=[]->AV.refsL (vs.map (av s.hp))=[]:=fun hv=>(by refine AF.2 fun r0 eY => ?_;obtain⟨_,m1,m2⟩:=zh.1 eY;obtain⟨v0,fw,rfl⟩:=Al.1 m1;rw[zee (hl v0 fw) (BB.1 hv v0 fw)] at m2;cases m2);have bt:(encA c.res y).plain=true∨AV.refsL (vs.map (av s.hp))=[]:=hp.imp (fun h=>plain_ok h y) hrefs;have gS:zT s.toA.hp [] 0 (vs.map (av s.hp))=some as:=by rw[zaA];exact h1
    cases hq:q with
    | true =>
     rw[hq,Bv] at ho;have e:=noOwn_hs ho dO;rw[e,nf (zld ho y)] at himp;simp only[DM,DN] at himp;refine⟨v,hs,encA c.res y,s.toA,h, ?_,fun dst => ?_⟩
     ·unfold zdo;rw[if_pos rfl];exact⟨rfl,as,gS,bo,bt,zld ho y⟩
     ·rw[jl,e,himp.1];rfl
    | false =>
     refine⟨v,hs,_,_,h, ?_,fun dst=>(jl _ dst v).symm⟩;unfold zdo;rw[if_neg (by simp)];refine⟨as,encA c.res y,[],s.toA,s.toA,gS,by rw[zdd];first|done|rfl,bo, ?_,⟨by rw[jh];rfl,rfl,by rw[jh];rfl⟩,by rw[jh];exact himp⟩
     simp only[settle,BO,if_true];rw[if_pos bt]
   ·cases h
  split at h
  ·split at h
   ·rename_i y hy;exact main y hy h
   ·cases h
  ·obtain⟨y,hy,h⟩:=ws h;exact main y hy h
def zdQ {q2 fz frz:Bool} (h2:fz=true->q2=q) {f:Nat} {args:TSt->List TV} {o:AOp}:∀ {C:List CSpec},zK S C->(∀s':TSt,(s'=s∨(fz=true∧∃h1,s'=s.push h1))->(∀v∈args s',lv s'.hp v=v)∧∀a st1,zdo S q frz f (args s') d s' a st1->jt (zb S) q2 o d s'.toA a st1) ->
  zho C q fz f args d s k=some r->∃v hs,k v hs=some r∧qd S q2 o d s v hs
 | [],_,_,h=>by cases h
 | c::C,hC,hA,h=>by
  have rest:zho C q fz f args d s k=some r->∃v hs,k v hs=some r∧qd S q2 o d s v hs:=zdQ h2 (fun c hc=>hC c (Ad _ hc)) hA;unfold zho at h;split at h
  ·exact rest h
  ·rename_i hb;obtain⟨hb,me⟩:=AL.1 hb;rw[zQ] at hb;have um:∀x y,c.fn x=some y->(zb S).ret c.f (encAL c.sig x) (encA c.res y) []:=fun x y hy=>(by have:=hC c Ak x y hy;rw[Cj.1 me] at this;exact this);split at h
   ·exact rest h
   ·rename_i x hx;split at h
    ·rename_i az;obtain⟨v,hs,a,st1,k1,k2,k3⟩:=ansT_ok (S:=S) (frz:=frz) um hb (hA s (.inl rfl)).1 hx (by simpa only[B5,Cj] using az) h;exact⟨v,hs,k1,[],a,st1,.inl rfl,(hA s (.inl rfl)).2 a st1 k2,fun dst=>.inl (k3 dst)⟩
    ·split at h
     ·cases h
     ·rename_i hq;simp only[B0,Bool.not_eq_false'] at hq;split at h
      ·cases h
      ·rename_i h1 hfz;split at h
       ·rename_i x' bq hem;have ur:=hA (s.push h1) (.inr ⟨hq.2,h1,rfl⟩);obtain⟨v,hs,a,st1,k1,k2,k3⟩:=ansT_ok (S:=S) (frz:=frz) um hb ur.1 bq (.inr (Cj.1 hem)) h;have st:qd S q2 o d (s.push h1) v hs:=⟨[],a,st1,.inl rfl,ur.2 a st1 k2,fun dst=>.inl (k3 dst)⟩;exact⟨v,_,k1,st.pre ((h2 hq.2).trans hq.1) (zcL _ _ _ hfz)⟩
       ·cases h
def zfN {hp:Nat->Option Blk} {x a:AV} (hr:x.refs=[]) (h:qo hp x=some a):a=x:=by
 cases x with
 | pe=>simp[AV.refs] at hr
 | lsl=>simp[AV.refs] at hr
 | own=>simp[qo] at h
 | _=>simp only[qo,hr,BO,if_true,DM] at h;exact h.symm
def zbn {f:AV->Option AV}:∀ {l as:List AV},(∀x∈l,∀a,f x=some a->a=x)->zd f l=some as->as=l
 | [],as,_,h=>by simp only[zd,DM] at h;exact h.symm
 | x::l,as,hx,h=>by
  simp only[zd] at h;split at h
  ·rename_i y ys h1 h2;cases h;rw[hx x Ak y h1,zbn (fun x hm=>hx x (Ad _ hm)) h2]
  ·cases h
def zfS {cs:List AV} (h:AV.refsL cs=[]):∀x∈cs,x.refs=[]:=fun x hx=>AF.2 fun s hs=>by
 have:=zh.2 ⟨x,hx,hs⟩;rw[h] at this;cases this
def zfM {hp:Nat->Option Blk} {x a:AV} (hr:x.refs=[]) (h:qt hp x=some a):a=x:=by
 cases x with
 | pv=>simp[AV.refs] at hr
 | agg cs =>
  simp only[qt] at h;split at h
  ·rename_i aJ an;cases h;rw[AV.refs] at hr;rw[zbn (fun x hx a ha=>zfN (zfS hr x hx) ha) an]
  ·cases h
 | _=>simp only[qt] at h;exact zfN hr h
def zea {hp:Nat->Option Blk} {x a:AV} (hr:x.refs=[]) (h:zay hp x=some a):a=x:=by
 have lst:∀ {cs aJ:List AV},AV.refsL cs=[]->zd (qt hp) cs=some aJ->aJ=cs:=fun hr an=>zbn (fun x hx a ha=>zfM (zfS hr x hx) ha) an;cases x with
 | fn f cs =>
  simp only[zay] at h;split at h
  ·rename_i aJ an;cases h;rw[AV.refs] at hr;rw[lst hr an]
  ·cases h
 | tup cs =>
  simp only[zay] at h;split at h
  ·rename_i aJ an;cases h;rw[AV.refs] at hr;rw[lst hr an]
  ·cases h
 | agg cs =>
  simp only[zay] at h;split at h
  ·rename_i aJ an;cases h;rw[AV.refs] at hr;rw[lst hr an]
  ·cases h
 | _=>simp only[zay] at h;exact zfM hr h
def fnOkT_ok {h:THp} {v:TV} (hl:lv h v=v) (hf:fnOkT h v=true):fnOk (hpA h) (av h v)=true:=by
 cases v with
 | fn f vs =>
  simp only[fnOkT] at hf;simp only[av,fnOk];refine Af.2 fun a ha => ?_;obtain⟨y,hy,rfl⟩:=Al.1 ha;have lT:=Af.1 hf y hy;by_cases hp:∃s off,y=.pv s off
  ·obtain⟨s,off,rfl⟩:=hp;simp only at lT;split at lT
   ·rename_i cs hq;have hb:hpA h s=some (.var (cs.map fun x=>av1 h (lv1 h x))):=by simp only[hpA,hq,blk]
    have e0:zhn (hpA h) (av2 h (.pv s off))=((cs.map fun x=>av1 h (lv1 h x)).all fun c=>c.refs.isEmpty):=(by show zhn (hpA h) (.pv s off)=_;simp only[zhn,hb]);rw[e0];refine Af.2 fun c hc => ?_;obtain⟨z,hz,rfl⟩:=Al.1 hc;have cH:=Af.1 lT z hz;rw[zgE (h:=h) (by simpa using cH)];rfl
   ·cases lT
  ·have hr:rf2 y=[]:=by
    cases y with
    | pv s off=>exact absurd ⟨s,off,rfl⟩ hp
    | _=>simpa using lT
   have ga:=rf2_refs (h:=h) hr;have:∀x:AV,x.refs=[]->zhn (hpA h) x=true:=fun x hx=>by
    cases x with
    | pv s off=>simp[AV.refs] at hx
    | _=>simp[zhn,hx]
   exact this _ ga
 | _=>simp[fnOkT] at hf
def decM1_ok {h:THp} {sm hd:Bool} {sh:Sh} {v:TV} {x:sh.den} (hl:lv h v=v) (hx:decM1 h sm hd sh v=some x) :
  (hd=true∧∃s v' dV t xs,v=.lw s v'∧look s .gone h=.row dV t xs∧av h v=.lsl s t.z 0 (xs.map t.cells).length∧encA sh x=.own t.z (xs.map t.cells)) ∨
  (hd=false∧∃a,((av h v).refs=[]∧a=av h v∨sm=true∧fnOk (hpA h) (av h v)=true∧(av h v).refs≠[]∧zay (hpA h) (av h v)=some a)∧Wk (fun _=>False) a (encA sh x)∧zG a=false∧zG (encA sh x)=false):=by
 by_cases ho:∃t,sh=.own t
 ·obtain⟨t,rfl⟩:=ho;simp only[decM1] at hx;split at hx
  ·rename_i s v';split at hx
   ·rename_i dV t' xs hq;obtain⟨rfl,rfl⟩:=zX hx;exact .inl ⟨rfl,s,v',dV,t',_,rfl,hq,by rw[zdx hq,Aq],rfl⟩
   ·cases hx
  ·cases hx
 ·have bq:(match (generalizing:=false) hd,rf v with|false,[]=>dec h sh v|false,_::_=>(match (generalizing:=false) sm && fnOkT h v with|true=>dec h sh v|false=>none)|_,_=>none)=some x:=by
   cases sh with
   | own t=>exact absurd ⟨t,rfl⟩ ho
   | _=>exact hx
  split at bq
  ·rename_i hr;obtain⟨a,k1,k2⟩:=zlA hl bq;have bO:=zee hl hr;have e:=zea bO k1;subst e;exact .inr ⟨rfl,_,.inl ⟨bO,rfl⟩,k2,wM k1,zaH bq⟩
  ·split at bq
   ·rename_i hc;obtain⟨c1,c2⟩:=AL.1 hc;obtain⟨a,k1,k2⟩:=zlA hl bq;by_cases bO:(av h v).refs=[]
    ·have e:=zea bO k1;subst e;exact .inr ⟨rfl,_,.inl ⟨bO,rfl⟩,k2,wM k1,zaH bq⟩
    ·exact .inr ⟨rfl,a,.inr ⟨c1,fnOkT_ok hl c2,bO,k1⟩,k2,wM k1,zaH bq⟩
   ·cases bq
  ·cases bq
def decM_ok {h:THp} {muts:List Nat} (hm:muts.isEmpty=false):∀ {i:Nat} {l:List Sh} {vs:List TV} {x:Sh.denL l},(∀v∈vs,lv h v=v)->decM h muts i l vs=some x ->
  ∃as,zT (hpA h) muts i (vs.map (av h))=some as∧PK as (encAL l x)∧(∀(j:Nat) (a b:AV),as[j]? = some a->(encAL l x)[j]? = some b->zG a=zG b) ∧
   z8 muts i (vs.map (av h))=hsT muts i vs∧zM muts i (vs.map (av h))=esT muts i vs∧(∀s∈hsT muts i vs,∃v t xs,look s .gone h=.row v t xs)∧(∀s∈esT muts i vs,s∈hsT muts i vs):=by
 have one:∀ {i:Nat} {sh:Sh} {v:TV} {x:sh.den} {rest:List AV} {as:List AV},lv h v=v->decM1 h (zbN muts) (zA muts i) sh v=some x->zT (hpA h) muts (i+1) rest=some as ->
   ∃a,zT (hpA h) muts i (av h v::rest)=some (a::as)∧Wk (fun _=>False) a (encA sh x)∧zG a=zG (encA sh x)∧z8 muts i (av h v::rest)=wO (zA muts i) v++z8 muts (i+1) rest ∧
    zM muts i (av h v::rest)=wO (zA muts i && !muts.contains i) v++zM muts (i+1) rest∧(∀s∈wO (zA muts i) v,∃v t xs,look s .gone h=.row v t xs)∧(∀s∈wO (zA muts i && !muts.contains i) v,s∈wO (zA muts i) v):=by
  intro i sh v x rest as hl hx bN;rcases decM1_ok hl hx with⟨hh,s,v',dV,t,xs,rfl,hq,e1,e2⟩|⟨hh,a,hr,hw,n1,n2⟩
  ·refine⟨.own t.z (xs.map t.cells), ?_,by rw[e2];exact .rfl _,by rw[e2], ?_, ?_, ?_, ?_⟩
   ·rw[e1];have hb:hpA h s=some (.arr t.z (xs.map t.cells)):=by simp only[hpA,hq,blk]
    simp only[zT,hh,if_true,hb,and_self,bN]
   ·rw[e1];simp only[z8,hh,if_true,wO]
   ·rw[e1];simp only[zM,hh,Bv];cases muts.contains i<;>rfl
   ·rw[hh];intro s' ae;simp only[wO,Ah] at ae;subst ae;exact⟨_,_,_,hq⟩
   ·rw[hh];cases muts.contains i<;>simp[wO]
  ·have nl:∀(l:List Nat),(match av h v with | .lsl s _ _ _=>[s]|_=>([]:List Nat))=l->True:=fun _ _=>trivial
   refine⟨a, ?_,hw,n1.trans n2.symm, ?_, ?_, ?_, ?_⟩
   ·rcases hr with⟨hr,rfl⟩|⟨r1,r2,r3,r4⟩
    ·simp only[zT,hh,hm,Au,if_false,hr,BO,if_true,bN]
    ·have r3':(av h v).refs.isEmpty=false:=by
      cases hq:(av h v).refs.isEmpty with
      | false=>rfl
      | true=>exact absurd (by simpa using hq) r3
     simp only[zT,hh,hm,Au,if_false,r3',r1,r2,Db,if_true,r4,bN]
   ·simp only[z8,hh,Au,if_false,wO]
   ·simp only[zM,hh,Dw,Au,if_false,wO]
   ·rw[hh];simp[wO]
   ·rw[hh];simp[wO]
 intro i l
 induction l generalizing i with
 | nil =>
  intro vs x _ hx;cases vs with
  | nil=>exact⟨[],rfl,.nil,by simp,rfl,rfl,by simp[hsT],by simp[esT]⟩
  | cons=>simp[decM] at hx
 | cons sh l ih =>
  intro vs x hl hx;cases l with
  | nil =>
   match vs with
   | []=>simp[decM] at hx
   | [v] =>
    simp only[decM] at hx;obtain⟨a,k1,k2,k3,k4,k5,k6,k7⟩:=one (hl v (by simp)) hx (rest:=[]) (as:=[]) rfl;refine⟨[a],k1,.cons k2 .nil,fun j a' b ha hb => ?_,by simpa[z8,hsT] using k4,by simpa[zM,esT] using k5,by simpa[hsT] using k6,by simpa[hsT,esT] using k7⟩;cases j with
    | zero=>simp[encAL] at ha hb;subst ha;subst hb;exact k3
    | succ j=>simp at ha
   | _::_::_=>simp[decM] at hx
  | cons bZ l =>
   cases vs with
   | nil=>simp[decM] at hx
   | cons v vs =>
    simp only[decM] at hx;split at hx
    ·rename_i a0 b0 h1 h2;cases hx;obtain⟨as,m1,m2,m3,m4,m5,m6,m7⟩:=ih (fun v hv=>hl v (Ad _ hv)) h2;obtain⟨a,k1,k2,k3,k4,k5,k6,k7⟩:=one (hl v (by simp)) h1 m1;refine⟨a::as,k1,.cons k2 m2,fun j a' b ha hb => ?_,by simp only[Aw,hsT];rw[k4,m4],by simp only[Aw,esT];rw[k5,m5],fun s hs => ?_,fun s hs => ?_⟩
     ·simp only[encAL] at hb;cases j with
      | zero=>simp at ha hb;subst ha;subst hb;exact k3
      | succ j=>simp only[A4] at ha hb;exact m3 j a' b ha hb
     ·simp only[hsT] at hs;exact (Aj.1 hs).elim (k6 s) (m6 s)
     ·simp only[hsT,esT] at hs ⊢;exact Aj.2 ((Aj.1 hs).imp (k7 s) (m7 s))
    ·cases hx
def ziZ {muts:List Nat}:∀(i:Nat) (vs:List TV),qp (hsT muts i vs)=true->qp (esT muts i vs)=true∧∀s∈esT muts i vs,s∈hsT muts i vs
 | _,[],_=>⟨rfl,by simp[esT]⟩
 | i,v::vs,h=>by
  simp only[hsT] at h;obtain⟨n1,n2⟩:=zbT _ _ h;obtain⟨k1,k2⟩:=ziZ (i+1) vs n1;have sub:∀s∈wO (zA muts i && !muts.contains i) v,s∈wO (zA muts i) v:=(by cases zA muts i<;>cases muts.contains i<;>simp[wO]);refine⟨?_,fun s hs => ?_⟩
  ·simp only[esT];have aM:wO (zA muts i && !muts.contains i) v=[]∨∃s,wO (zA muts i && !muts.contains i) v=[s]:=by
    unfold wO;split
    ·exact .inr ⟨_,rfl⟩
    ·exact .inl rfl
   rcases aM with e|⟨s,e⟩
   ·rw[e];exact k1
   ·rw[e];simp only[AK,AJ,qp,k1,CJ,AU,Bf,decide_eq_false_iff_not];exact fun hm=>n2 s (sub s (by rw[e];simp)) (k2 s hm)
  ·simp only[hsT,esT] at hs ⊢;exact Aj.2 ((Aj.1 hs).imp (sub s) (k2 s))
def zbq {a:Nat} {l:List Nat} (h:qp (a::l)=true):a∉l∧qp l=true:=by simp only[qp,Ai,AU,Bf,decide_eq_false_iff_not] at h;exact h
def zij:∀(l:List Nat) (s:TSt),(∀r∈l,∃v t xs,look r .gone s.hp=.row v t xs)->qp l=true->(s.push (zbt l)).toA=s.toA.dropL l
 | [],s,_,_=>rfl
 | r::l,s,h,hn=>by
  obtain⟨n1,n2⟩:=zbq hn;obtain⟨v,t,xs,h0⟩:=h r Ak;simp only[zbt,ASt.dropL];rw[←wQ,zij l _ (fun r' bO => ?_) n2,toA_gone h0]
  ·rfl
  ·obtain⟨v',t',xs',h1⟩:=h r' (Ad _ bO);refine⟨v',t',xs', ?_⟩;simp only[TSt.push,AK,AJ,zp];rw[if_neg (by rintro rfl;exact n1 bO),h1]
def ziD:∀(l:List Nat) (h:THp) (r:Nat),r∉l->look r .gone (zbt l++h)=look r .gone h
 | [],h,r,_=>rfl
 | a::l,h,r,hn=>by
  simp only[zbt,AP,AK,AJ];rw[ziD l _ r (fun hm=>hn (Ad _ hm)),zp,if_neg (by rintro rfl;exact hn Ak)]
def drop_set {st:ASt} {r s0 z:Nat} {es:List (List AV)} (ah:s0≠r):(st.setH s0 (some (.arr z es))).drop r=(st.drop r).setH s0 (some (.arr z es)):=by
 simp only[ASt.drop,ASt.setH,ASt.scrub];congr 1;funext k;simp only[upd];by_cases h1:k=r
 ·subst h1;rw[if_pos rfl,if_neg (Ne.symm ah),if_pos rfl]
 ·rw[if_neg h1,if_neg h1];by_cases h2:k=s0
  ·rw[if_pos h2,if_pos h2];rfl
  ·rw[if_neg h2,if_neg h2]
def zca:∀(l:List Nat) {st:ASt} {s0 z:Nat} {es:List (List AV)},s0∉l->(st.setH s0 (some (.arr z es))).dropL l=(st.dropL l).setH s0 (some (.arr z es))
 | [],_,_,_,_,_=>rfl
 | r::l,st,s0,z,es,hn=>by
  simp only[ASt.dropL];rw[drop_set (by rintro rfl;exact hn Ak),zca l fun hm=>hn (Ad _ hm)]
def setH_setH (st:ASt) (s:Nat) (a b:Option Blk):(st.setH s a).setH s b=st.setH s b:=by
 simp only[ASt.setH];congr 1;funext k;simp only[upd]
 split<;>rfl
def push_eat {s0:Nat} {rest:List Nat} {v n:Nat} {t t':Ty} {xs:List t.den} {ys:List t'.den} (h0:look s0 .gone s.hp=.row v t xs) (hf:jY s0 (.row n .int []) s=true) (hn:qp (s0::rest)=true)
  (hr:∀r∈rest,∃v t xs,look r .gone s.hp=.row v t xs):(s.push (zbt rest++[(s0,.row n t' ys)])).toA=(s.toA.dropL (s0::rest)).setH s0 (some (.arr t'.z (ys.map t'.cells))):=by
 obtain⟨n1,n2⟩:=zbq hn;rw[←wQ,zij rest _ (fun r hm => ?_) n2,toA_app h0 hf,zca rest n1]
 ·simp only[ASt.dropL,ASt.drop];rw[←zca rest n1,←zca rest n1,setH_setH]
 ·obtain⟨v',t',xs',h1⟩:=hr r hm;refine⟨v',t',xs', ?_⟩;simp only[TSt.push,AK,AJ,zp];rw[if_neg (by rintro rfl;exact n1 hm),h1]
def sr {h:THp} {muts:List Nat}:∀(i:Nat) (vs:List TV),(∀v∈vs,lv h v=v)->restM muts i vs=[]->zby muts i (vs.map (av h))=[]
 | _,[],_,_=>rfl
 | i,v::vs,hl,hr=>by
  simp only[restM,List.append_eq_nil_iff] at hr;have ih:=sr (i+1) vs (fun v hv=>hl v (Ad _ hv)) hr.2;simp only[Aw,zby,ih,Bl];cases hh:zA muts i with
  | true=>rfl
  | false =>rw[hh] at hr;rw[if_neg (by simp)];exact zee (hl v Ak) hr.1
def ziF {muts:List Nat} (hm:muts.isEmpty=false) (hk:jx muts=[]):zbN muts=false:=by
 cases muts with
 | nil=>cases hm
 | cons a r =>
  cases hs:zbN (a::r) with
  | false=>rfl
  | true =>have ha:Nat.blt a 1000=true:=Af.1 hs a Ak;simp only[jx,List.filter_cons,ha,if_true] at hk;cases hk
def finM_ok {muts:List Nat} {args:List TV} {f:Nat} {frz:Bool} {as:List AV} {sh:Sh} {y:sh.den} (hm:muts.isEmpty=false) (hl:∀v∈args,lv s.hp v=v)
  (h1:zT s.toA.hp muts 0 (args.map (av s.hp))=some as) (h2:z8 muts 0 (args.map (av s.hp))=hsT muts 0 args) (h3:zM muts 0 (args.map (av s.hp))=esT muts 0 args) (h4:∀r∈hsT muts 0 args,∃v t xs,look r .gone s.hp=.row v t xs)
  (hn:qp (hsT muts 0 args)=true) (hx:zfy (esT muts 0 args)=true) (rC:((restM muts 0 args).isEmpty || intOut sh)=true) (bo:retK S f as (jx muts) sh y) (h:finM s muts args sh y k=some r) :
  ∃v hs a st1,k v hs=some r∧zbE (zb S) frz muts f (args.map (av s.hp)) d s.toA a st1∧∀dst:Option Nat,st1.putO dst a=((s.push hs).putO dst v).toA:=by
 have bt:∀r0:AV,settle frz (if muts.isEmpty then AV.refsL (args.map (av s.hp)) else []) r0 s.toA=some s.toA:=(by intro r0;rw[hm];simp only[Au,if_false,settle,or_true,if_true])
 obtain⟨e1,e2⟩:=ziZ 0 args hn;unfold finM at h;split at h
 ·rename_i i hk he;split at h
  ·rename_i s0 v0 ha;split at h
   ·rename_i v t xs hq;split at h
    ·rename_i t' ys;split at h
     ·rename_i bU hc;obtain⟨rfl,rfl⟩:=zX hc;obtain⟨hlen,h⟩:=qG h;have hlen:=of_decide_eq_true hlen;rw[hk] at bo;have bo:(zb S).ret f as (.tup []) [(i,List.map t'.cells bU)]:=bo;have mE:kJ muts (args.map (av s.hp)) (.tup []) [(i,List.map t'.cells bU)]=true:=by
       rcases Bool.or_eq_true_iff.1 rC with q|q
       ·simp only[kJ,sr (h:=s.hp) 0 args hl (by simpa using q),BO,Bool.or_true,Di]
       ·have ht:t'=.int:=by cases t'<;>first|rfl|simp[intOut] at q
        subst ht;have:(List.map Ty.int.cells bU).all (fun e=>e.all AV.plain1)=true:=Af.2 fun e he=>(by obtain⟨n,_,rfl⟩:=Al.1 he;rfl);simp only[kJ,AV.plain,all_nil,Bg,this,Db,Bool.or_true]
      have rF:(args.map (av s.hp))[i]? = some (.lsl s0 t'.z 0 xs.length):=by rw[As,ha];simp only[AQ,zdx hq]
      have e:=zaP (s:=s) (d:=s0) (b:=.row v t' bU) (.row hq hlen) (fun hg=>by rw[hq] at hg;cases hg);refine⟨_,_,.tup [],(s.push [(s0,.row v t' bU)]).toA,h,⟨as,.tup [],[(i,List.map t'.cells bU)],s.toA,(s.push [(s0,.row v t' bU)]).toA,h1,by rw[h2];exact hn,bo,bt _,⟨by rw[h3];exact AL.2 ⟨hx,mE⟩,by rw[hk];rfl, ?_⟩, ?_⟩,fun dst => ?_⟩
      ·rw[h3,he];simp only[ASt.dropL,zab,rF,qm,hq,blk,Aq];rw[if_pos hlen,e];simp only[blk]
      ·rw[h3,he];rfl
      ·rw[jl];rfl
     ·cases h
    ·cases h
   ·cases h
  ·cases h
 ·rename_i s0 rest hk he;split at h
  ·rename_i hc;obtain⟨fe,dP⟩:=AL.1 hc;rw[he] at e1 e2;obtain⟨v,t,xs,hq⟩:=h4 s0 (e2 s0 Ak);have bN:∀r∈rest,∃v t xs,look r .gone s.hp=.row v t xs:=fun r hr=>h4 r (e2 r (Ad _ hr));have kY:=(zbq e1).1;rw[hk] at bo;have lk:∀(t':Ty) (ys:List t'.den),look s0 .gone ((zbt rest++[(s0,TB.row s.ctr t' ys)])++s.hp)=.row s.ctr t' ys:=fun t' ys=>(by rw[AP,ziD rest _ _ kY];simp only[AK,AJ,zp,if_true]);have gone:(s.toA.dropL (s0::rest)).hp s0=none:=zgb _ Ak
   have fin:∀(t':Ty) (ys:List t'.den) (r0 a:AV) (v:TV),(zb S).ret f as r0 []->impE (s0::rest) d r0 (s.toA.dropL (s0::rest))=some (a,(s.toA.dropL (s0::rest)).setH s0 (some (.arr t'.z (ys.map t'.cells)))) ->
     Av ((zbt rest++[(s0,TB.row s.ctr t' ys)])++s.hp) v=a->k v (zbt rest++[(s0,TB.row s.ctr t' ys)])=some r ->
     ∃v hs a st1,k v hs=some r∧zbE (zb S) frz muts f (args.map (av s.hp)) d s.toA a st1∧∀dst:Option Nat,st1.putO dst a=((s.push hs).putO dst v).toA:=by
    intro t' ys r0 a v bo himp rF h;have e:=push_eat (t':=t') (ys:=ys) hq fe e1 bN;refine⟨v,_,a,_,h,⟨as,r0,[],s.toA,s.toA.dropL (s0::rest),h1,by rw[h2];exact hn,bo,bt _,⟨by rw[h3];exact AL.2 ⟨hx,by simp only[kJ,ziF hm hk,BN,Di]⟩,by rw[hk];rfl,by rw[h3,he];rfl⟩,by rw[h3,he];exact himp⟩,fun dst => ?_⟩;rw[jl,e];rw[show Av (s.push (zbt rest++[(s0,TB.row s.ctr t' ys)])).hp v=a from rF]
   split at h
   ·rename_i t' ys;refine fin t' ys _ (.lsl s0 t'.z 0 ys.length) _ bo ?_ ?_ h
    ·simp only[encA,impE,gone,Aq]
    ·rw[qN rfl,A1];simp only[lv1,lk,AZ,av1]
   ·rename_i t' lM l ys;split at h
    ·rename_i hall;obtain⟨m1,m2,m3⟩:=zlw ((zbt rest++[(s0,TB.row s.ctr t' ys.1)])++s.hp) (lM::l) ys.2 hall;refine fin t' ys.1 _ (.tup (.lsl s0 t'.z 0 (List.length ys.1)::encAL (lM::l) ys.2)) _ bo ?_ ?_ h
     ·simp only[encA,encAL,impE,gone,Aq,m3,if_true]
     ·have l0:zN ((zbt rest++[(s0,TB.row s.ctr t' ys.1)])++s.hp) (.lw s0 s.ctr)=true:=(by simp only[zN,zi,lk,AZ]);have a0:A2 ((zbt rest++[(s0,TB.row s.ctr t' ys.1)])++s.hp) (.lw s0 s.ctr)=.lsl s0 t'.z 0 (List.length ys.1):=(by rw[j8 rfl,A1];simp only[lv1,lk,AZ,av1]);rw[eT,if_pos (Af.2 fun y hy => ?_),Aw,a0,m2];rcases Ar.1 hy with rfl|hy
      ·exact l0
      ·exact m1 y hy
    ·cases h
   ·cases h
  ·cases h
 ·cases h
def eqN_ok:∀ {a b:List Nat},eqN a b=true->a=b
 | [],[],_=>rfl
 | [],_::_,h=>by cases h
 | _::_,[],h=>by cases h
 | a::r,b::l,h=>by
  simp only[eqN,Ai] at h;rw[zQ.1 h.1,eqN_ok h.2]
def zlG {frz:Bool} {m:Nat} {ms:List Nat} {f:Nat} {args:List AOpd}:∀ {C:List CSpec},zK S C->zmF C (m::ms) f (args.map s.ev) s k=some r->∃v hs,k v hs=some r∧qd S q (.call frz (m::ms) f args) d s v hs
 | [],_,h=>by cases h
 | c::C,hC,h=>by
  have rest:zmF C (m::ms) f (args.map s.ev) s k=some r->∃v hs,k v hs=some r∧qd S q (.call frz (m::ms) f args) d s v hs:=zlG fun c hc=>hC c (Ad _ hc);unfold zmF at h;split at h
  ·exact rest h
  ·rename_i hb;obtain⟨hb,me⟩:=AL.1 hb;rw[zQ] at hb;have me:=eqN_ok me;split at h
   ·exact rest h
   ·rename_i x hx;split at h
    ·cases h
    ·rename_i az;obtain⟨az,rC⟩:=AL.1 az;obtain⟨hn,dF⟩:=AL.1 az;have hl:∀v∈args.map s.ev,lv s.hp v=v:=fun v hv=>by obtain⟨y,_,rfl⟩:=Al.1 hv;exact zat s y
     obtain⟨as,k1,k2,k3,k4,k5,k6,k7⟩:=decM_ok (muts:=m::ms) rfl hl hx;have fin:∀y,c.fn x=some y->finM s (m::ms) (args.map s.ev) c.res y k=some r->∃v hs,k v hs=some r∧qd S q (.call frz (m::ms) f args) d s v hs:=by
      intro y hy h;have bo:retK S f as (jx (m::ms)) c.res y:=(by have h0:=hC c Ak x y hy;rw[me,hb] at h0;exact retK_wk k2 k3 _ _ _ h0);obtain⟨v,hs,a,st1,q1,q2,q3⟩:=finM_ok (S:=S) (frz:=frz) (d:=d) rfl hl k1 k4 k5 k6 hn dF rC bo h;have e:(args.map s.ev).map (av s.hp)=args.map s.toA.ev:=by rw[A6];exact Am fun y _=>(zU s y).symm
      rw[e] at q2;refine⟨v,hs,q1,[],a,st1,.inl rfl, ?_,fun dst=>.inl (q3 dst)⟩;simp only[jt];rw[if_neg (by simp)];exact q2
     split at h
     ·split at h
      ·rename_i y hy;exact fin y hy h
      ·cases h
     ·obtain⟨y,hy,h⟩:=ws h;exact fin y hy h
def sX {hp:Nat->Option Blk}:∀(i:Nat) (l as:List AV),(∀x∈l,x.refs=[])->zT hp [] i l=some as->zT hp [3000] i l=some as
 | _,[],as,_,h=>h
 | i,x::r,as,hr,h=>by
  have hh:zA [] i=false:=by simp[zA]
  simp only[zT,nU,hh,Au,if_false,BO,List.isEmpty_cons,if_true] at h ⊢;split at h
  ·rename_i y ys h1 h2;have hx:=hr x Ak;rw[zea hx h1] at h;rw[sX (i+1) r ys (fun z hz=>hr z (Ad _ hz)) h2];simp only[hx,BO,if_true];exact h
  ·cases h
def callR_new {M:Rets} {frz:Bool} {f:Nat} {args:List AV} {st st1:ASt} {v:AV} (hr:∀x∈args,x.refs=[]) (h:zbE M frz [] f args d st v st1):zbE M frz [3000] f args d st v st1:=by obtain⟨ak,r,outs,s1,s2,h1,_,h3,h4,⟨_,h5,h6⟩,h7⟩:=h;have ho:outs=[]:=List.map_eq_nil_iff.1 h5;subst ho;have hn:AV.refsL args=[]:=AF.2 fun s hs=>(by obtain⟨x,hx,hs⟩:=zh.1 hs;rw[hr x hx] at hs;cases hs);simp only[BO,if_true,hn,settle,or_true,DM] at h4;subst h4;rw[jh] at h6 h7;simp only[zab,ASt.dropL,DM] at h6;subst h6;exact callR3.2 ⟨ak,r,sX _ _ _ hr h1,h3,h7⟩
def callN_ok {frz:Bool} {m:Nat} {ms:List Nat} {f:Nat} {args:List AOpd} (hC:zK S C) (hb:newB m ms (args.map s.ev)=true) (h:zho C false false f (fun s=>args.map s.ev) d s k=some r) :
  ∃v hs,k v hs=some r∧qd S q (.call frz (m::ms) f args) d s v hs:=by
 simp only[newB,Ai,zQ,Cj] at hb;obtain⟨⟨rfl,rfl⟩,pq⟩:=hb;refine zdQ (q2:=q) (frz:=frz) (fun h=>by cases h) hC (fun s' ae => ?_) h;obtain rfl:s'=s:=by
  rcases ae with ae|⟨ae,_⟩
  ·exact ae
  ·cases ae
 have hl:∀v∈args.map s'.ev,lv s'.hp v=v:=fun v hv=>by obtain⟨y,hy,rfl⟩:=Al.1 hv;exact zat s' y
 refine⟨hl,fun a st1 aK => ?_⟩;have e:(args.map s'.ev).map (av s'.hp)=args.map s'.toA.ev:=by rw[A6];exact Am fun y _=>(zU s' y).symm
 have hr:∀x∈args.map s'.toA.ev,x.refs=[]:=fun x hx=>(by rw[←e] at hx;obtain⟨v0,fw,rfl⟩:=Al.1 hx;exact zee (hl v0 fw) (BB.1 pq v0 fw));unfold zdo at aK;rw[e,if_neg (by simp)] at aK;simp only[jt];rw[if_neg (by simp)];exact callR_new hr aK
def sH (hC:zK S C) {o:AOp} (h:top C q ty o d s k=some r):∃v hs,k v hs=some r∧qd S q o d s v hs:=by
 cases o with
 | mov x=>exact top_mov h
 | box x=>exact top_box h
 | alloc z=>exact top_alloc h
 | build z p=>exact top_build h
 | bslice f z zz l p=>exact zl0 h
 | lit z zz l p=>exact top_lit h
 | load n x=>exact top_load h
 | store z a x=>exact top_store h
 | chk x=>exact top_chk h
 | bin kd op x y=>exact top_bin h
 | eqa n sh x y=>exact top_eqa h
 | eqn sl n x=>exact top_eqn h
 | un op x=>exact top_un h
 | cvi kd x=>exact top_cvi h
 | cvs x=>exact top_cvs h
 | ifc t x=>exact top_ifc h
 | mkfn f c=>exact top_mkfn h
 | mksl z zz l c=>exact top_mksl h
 | slc z x lo hi=>exact top_slc h
 | fa off x=>exact top_fa h
 | fld off n x=>exact top_fld h
 | ia z x i=>exact top_ia h
 | ix x i=>exact top_ix h
 | ext x i=>exact top_ext h
 | len st x=>exact top_len h
 | app z x y=>exact top_app h
 | pick c a b=>exact top_pick h
 | max2 x y=>exact top_max2 h
 | call frz muts f args =>
  simp only[top] at h;split at h
  ·refine zdQ (frz:=frz) (fun _=>rfl) hC (fun s' _=>⟨fun v hv => ?_,fun a st1 aK => ?_⟩) h
   ·obtain⟨y,hy,rfl⟩:=Al.1 hv;exact zat s' y
   ·have e:(args.map s'.ev).map (av s'.hp)=args.map s'.toA.ev:=by rw[A6];exact Am fun y _=>(zU s' y).symm
    unfold zdo at aK;rw[e] at aK;simp only[jt];split at aK
    ·rename_i hq;rw[if_pos ⟨hq,True.intro⟩];exact aK
    ·rename_i hq;rw[if_neg (fun hh=>hq hh.1)];exact aK
  ·split at h
   ·rename_i m ms hb;exact callN_ok hC hb h
   ·exact zlG hC h
 | calld frz x args =>
  simp only[top] at h;split at h
  ·rename_i f caps hx;obtain⟨e1,e2⟩:=yU hx;refine zdQ (frz:=frz) (fun _=>rfl) hC (fun s' ae => ?_) h;obtain rfl:s'=s:=by
    rcases ae with ae|⟨ae,_⟩
    ·exact ae
    ·cases ae
   refine⟨fun v hv => ?_,fun a st1 aK => ?_⟩
   ·rw[hx] at hv;simp only[zlF] at hv;rcases Aj.1 hv with hv|hv
    ·obtain⟨y,hy,rfl⟩:=Al.1 hv;exact zat s' y
    ·exact zev (lv_fn e2 v hv)
   ·have e:(args.map s'.ev++zlF (s'.ev x)).map (av s'.hp)=args.map s'.toA.ev++caps.map (av2 s'.hp):=by
     rw[hx,zlF,Bc,A6];congr 1
     ·exact Am fun y _=>(zU s' y).symm
     ·refine Am fun y hy => ?_;have:=lv_fn e2 y hy;cases y<;>first|rfl|simp[lv2,lv1] at this
    unfold zdo at aK;rw[e] at aK;simp only[jt,e1];rw[show av s'.hp (.fn f caps)=.fn f (caps.map (av2 s'.hp)) from rfl];simp only;split at aK
    ·rename_i hq;rw[if_pos hq];exact aK
    ·rename_i hq;rw[if_neg hq];exact aK
  ·cases h
def zhs {b:Bool} {x y:Option α} (h:br b x y=some r):(b=true∧x=some r)∨(b=false∧y=some r):=by
 cases b with
 | true=>exact .inl ⟨rfl,h⟩
 | false=>exact .inr ⟨rfl,h⟩
def Over (s s':TSt):Prop:=(∃l,s'.fr=l++s.fr)∧∃l,s'.hp=l++s.hp
def Over.refl (s:TSt):Over s s:=⟨⟨[],rfl⟩,⟨[],rfl⟩⟩
def Over.trans {a b c:TSt} (h:Over a b) (h':Over b c):Over a c:=by obtain⟨⟨l1,e1⟩,l2,e2⟩:=h;obtain⟨⟨l3,e3⟩,l4,e4⟩:=h';exact⟨⟨l3++l1,by rw[e3,e1,AP]⟩,l4++l2,by rw[e4,e2,AP]⟩
def Over.put (s:TSt) (d:Option Nat) (v:TV):Over s (s.putO d v):=by
 cases d with
 | none=>exact .refl s
 | some d=>exact⟨⟨[(d,v)],rfl⟩,[],rfl⟩
def Over.push (s:TSt) (hs:THp):Over s (s.push hs):=⟨⟨[],rfl⟩,hs,rfl⟩
def zlC {ops:List AOper} {st st1 ai:ASt} (h:Cv S q st st1) (hr:OpsR (zb S) q ops st1 ai):OpsR (zb S) q ops st ai:=by
 rcases h with rfl|⟨hq,h⟩
 ·exact hr
 ·exact .cv hq h hr
def jy (hC:zK S C):∀(ops:List AOper) (tys:List Ty) (s:TSt) {k:TSt->Option α},zlZ C q ops tys s k=some r->∃s',k s'=some r∧OpsR (zb S) q ops s.toA s'.toA∧Over s s'
 | [],tys,s,k,h=>⟨s,h,.nil _,.refl s⟩
 | ⟨d,op,none,af⟩::ops,tys,s,k,h=>by
  simp only[zlZ] at h;obtain⟨v,hs,h1,h0,a,st1,k1,k2,k3⟩:=sH (S:=S) hC h;obtain⟨s',m1,m2,m3⟩:=jy hC ops tys.tail (s.done d v hs) h1;exact⟨s',m1,zlC k1 (.cons (.inl ⟨rfl,a,st1,k2,rfl⟩) (zlC (k3 d) m2)),(Over.push s hs).trans ((Over.put _ _ _).trans m3)⟩
 | ⟨d,op,some (t,want),af⟩::ops,tys,s,k,h=>by
  simp only[zlZ] at h;have same:∀b,s.ev (.t t)=.b b->(s.put t (.b b)).toA=s.toA:=fun b hb=>by
   have e:s.toA.fr t=.v (.bool b):=(by have:=zU s (.t t);rw[hb] at this;exact this);have:=jl s (some t) (.b b);simp only[TSt.putO,ASt.putO,ASt.put] at this;rw[this,Av_b];show (⟨upd s.toA.fr t (.v (.bool b)),s.toA.hp⟩:ASt)=⟨s.toA.fr,s.toA.hp⟩;congr 1;funext j;simp only[upd];split
   ·rename_i hj;subst hj;exact e.symm
   ·rfl
  have go:∀b,s.ev (.t t)=.b b->b=want->top C q (tys.headD .int) op (d.getD 0) (s.put t (.b b)) (fun v hs=>zlZ C q ops tys.tail ((s.put t (.b b)).done d v hs) k)=some r ->
    ∃s',k s'=some r∧OpsR (zb S) q (⟨d,op,some (t,want),af⟩::ops) s.toA s'.toA∧Over s s':=by
   intro b hb hw h;obtain⟨v,hs,h1,h0,a,st1,k1,k2,k3⟩:=sH (S:=S) hC h;obtain⟨s',m1,m2,m3⟩:=jy hC ops tys.tail ((s.put t (.b b)).done d v hs) h1;refine⟨s',m1, ?_,(Over.put s (some t) (.b b)).trans ((Over.push _ hs).trans ((Over.put _ _ _).trans m3))⟩;rw[same b hb] at k1;refine zlC k1 (.cons (.inl ⟨?_,a,st1,k2,rfl⟩) (zlC (k3 d) m2));have e:((s.put t (.b b)).push h0).toA.fr t=.v (.bool b):=(by rw[iB];simp only[TSt.push,TSt.put,zp,if_true,Av_b]);simp only[zds,e];rw[hw];simp
  have by_:∀b,s.ev (.t t)=.b b->b = !want->zlZ C q ops tys.tail ((s.put t (.b b)).putO d .ud) k=some r ->
    ∃s',k s'=some r∧OpsR (zb S) q (⟨d,op,some (t,want),af⟩::ops) s.toA s'.toA∧Over s s':=by
   intro b hb hw h;obtain⟨s',m1,m2,m3⟩:=jy hC ops tys.tail _ h;refine⟨s',m1,.cons (.inr ⟨?_,rfl⟩) ?_,(Over.put s (some t) (.b b)).trans ((Over.put _ _ _).trans m3)⟩
   ·have e:s.toA.fr t=.v (.bool b):=(by have:=zU s (.t t);rw[hb] at this;exact this);simp only[zds,e];rw[hw];cases want<;>rfl
   ·rw[jl,same b hb] at m2;exact m2
  split at h
  ·rename_i hu;obtain⟨s',m1,m2,m3⟩:=jy hC ops tys.tail _ h;refine⟨s',m1,.cons (.inr ⟨?_,rfl⟩) ?_,(Over.put _ _ _).trans m3⟩
   ·have e:s.toA.fr t=Ab.ud:=(by have:=zU s (.t t);rw[hu] at this;exact this);simp only[zds,e,Ab.ud]
   ·rw[jl] at m2;exact m2
  ·rename_i x hx;rcases zhs h with⟨rfl,h⟩|⟨rfl,h⟩
   ·cases want with
    | true=>exact go true hx rfl h
    | false=>exact by_ true hx rfl h
   ·cases want with
    | true=>exact by_ false hx rfl h
    | false=>exact go false hx rfl h
  ·cases h
end
end
section
open Go Go.RowKit
section
variable {S:Seat} {α:Type} {C:List CSpec}
def zaQ {x:TV} (h:ok1 (qr [] x)=true):qr [] x=x∧rf1 x=[]:=by cases x<;>first|exact⟨rfl,rfl⟩|(simp[qr,ok1,look] at h;done)
def decW2 {N:Nat->Prop} {h:THp} {sh:Sh} {v:TV} {x:sh.den} (hl:lv2 h v=v) (hd:dec [] sh v=some x) (h':THp):lv2 h' (enc sh x)=enc sh x∧Wk N (av2 h v) (av2 h' (enc sh x)):=by
 cases sh with
 | int=>obtain rfl:=qa hd;exact⟨rfl,.rfl _⟩
 | u8=>obtain rfl:=zkh hd;exact⟨rfl,.rfl _⟩
 | bool=>obtain rfl:=zeR hd;exact⟨rfl,.rfl _⟩
 | str=>obtain rfl:=wB hd;exact⟨rfl,.rfl _⟩
 | err=>obtain rfl:=zki hd;exact⟨rfl,.rfl _⟩
 | unit =>
  simp only[dec] at hd;split at hd
  ·simp[lv2,lv1] at hl
  ·cases hd
 | sl t =>simp only[dec] at hd;obtain⟨k1,k2,k3,k4,k5,k6⟩:=zaI hd h;obtain⟨s1,s2⟩:=zaQ k6;rw[s1] at k1 k4;rw[kI k4];exact⟨rfl,k1.wk⟩
 | ns t =>simp only[dec] at hd;obtain⟨k1,k3,k4,k5,k6⟩:=zlB hd h;obtain⟨s1,s2⟩:=zaQ k6;rw[s1] at k1 k4;rw[kI k4,k1];exact⟨by cases x<;>rfl,by cases x<;>exact .rfl _⟩
 | st t =>
  simp only[dec] at hd;split at hd
  ·rename_i cs;have hu:=w9 hd h;have e:cs.map (qr [])=cs:=(by have:∀y∈cs,qr [] y=y:=fun y hy=>(zaQ (hu.flat _ (Al.2 ⟨y,hy,rfl⟩)).2.2.2).1;rw[Am this,Cu]);have gR:=hu.pn;rw[e] at gR;obtain⟨t1,t2⟩:=gG t x h';refine⟨mk_ag fun y hy=>yF (t2 y hy).1, ?_⟩;simp only[enc,av2,t1];exact .agg gR.1 fun i x y hx hy=>(gR.2 i x y hx hy).wk
  ·cases hd
 | bx t =>
  simp only[dec] at hd;split at hd
  ·obtain⟨rfl,rfl⟩:=nj hd;exact⟨rfl,.rfl _⟩
  ·simp[look] at hd
  ·cases hd
 | own t=>simp[dec] at hd
 | fnc id caps =>
  simp only[dec] at hd;split at hd
  ·simp[lv2,lv1] at hl
  ·cases hd
 | tp l =>
  simp only[dec] at hd;split at hd
  ·simp[lv2,lv1] at hl
  ·cases hd
def decWL {N:Nat->Prop} {h:THp} (h':THp):∀ {l:List Sh} {vs:List TV} {x:Sh.denL l},(∀v∈vs,lv2 h v=v)->bz [] l vs=some x ->
  (∀y∈wF l x,lv2 h' y=y)∧vs.length=(wF l x).length∧∀(i:Nat) (a b:AV),(vs.map (av2 h))[i]? = some a->((wF l x).map (av2 h'))[i]? = some b->Wk N a b
 | [],[],x,_,_=>⟨by simp[wF],rfl,by simp[wF]⟩
 | [],_::_,x,_,hd=>by simp[bz] at hd
 | [sh],[],x,_,hd=>by simp[bz] at hd
 | [sh],[v],x,hl,hd=>by
  simp only[bz] at hd;obtain⟨h1,h2⟩:=decW2 (N:=N) (hl v (by simp)) hd h';refine⟨by simpa[wF] using h1,rfl,fun i a b ha hb => ?_⟩;cases i with
  | zero=>simp[wF] at ha hb;subst ha;subst hb;exact h2
  | succ i=>simp at ha
 | [sh],_::_::_,x,_,hd=>by simp[bz] at hd
 | sh::bZ::r,[],x,_,hd=>by simp[bz] at hd
 | sh::bZ::r,v::vs,x,hl,hd=>by
  simp only[bz] at hd;split at hd
  ·rename_i a b ha hb;cases hd;obtain⟨h1,h2⟩:=decW2 (N:=N) (hl v (by simp)) ha h';obtain⟨h3,h4,h5⟩:=decWL (N:=N) h' (fun v hv=>hl v (Ad _ hv)) hb;refine⟨fun y hy => ?_,by simp only[wF,Ax,h4],fun i a b ha hb => ?_⟩
   ·simp only[wF] at hy;rcases Ar.1 hy with rfl|hy
    ·exact h1
    ·exact h3 y hy
   ·simp only[wF] at hb;cases i with
    | zero=>simp at ha hb;subst ha;subst hb;exact h2
    | succ i=>simp only[Aw,A4] at ha hb;exact h5 i a b ha hb
  ·cases hd
def decW {N:Nat->Prop} {h:THp} {sh:Sh} {v:TV} {x:sh.den} (hl:lv h v=v) (hd:dec [] sh v=some x) (h':THp):Wk N (av h v) (Av h' (enc sh x)):=by
 by_cases h2:lv2 h v=v
 ·obtain⟨k1,k2⟩:=decW2 (N:=N) h2 hd h';have e1:av h v=av2 h v:=by cases v<;>first|rfl|simp[lv2,lv1] at h2
  have e2:Av h' (enc sh x)=av2 h' (enc sh x):=by
   rw[j7 (zev k1)];cases he:enc sh x with
   | tp=>rw[he] at k1;simp[lv2,lv1] at k1
   | fn=>rw[he] at k1;simp[lv2,lv1] at k1
   | _=>rfl
  rw[e1,e2];exact k2
 ·cases v with
  | tp vs =>
   cases sh with
   | tp l =>simp only[dec] at hd;obtain⟨k1,k2,k3⟩:=decWL (N:=N) h' (lv_tp hl) hd;have:lv h' (.tp (wF l x))=.tp (wF l x):=(by simp only[lv,Af.2 fun y hy=>(by rw[←k1 y hy];exact yh _ _:zN h' y=true)];rw[Am k1,Cu]);simp only[enc];rw[j7 this];exact .tup (by simp[k2]) k3
   | unit =>
    simp only[dec] at hd;split at hd
    ·rename_i he;cases he;exact .rfl _
    ·cases hd
   | _=>simp[dec,dI,dU,dB,dS,dE,qr,dSl,dNs] at hd
  | fn f vs =>
   cases sh with
   | fnc id caps =>
    simp only[dec] at hd;split at hd
    ·rename_i hb;rw[zQ] at hb;subst hb;obtain⟨k1,k2,k3⟩:=decWL (N:=N) h' (lv_fn hl) hd;have:lv h' (.fn id (wF caps x))=.fn id (wF caps x):=(by simp only[lv,Af.2 fun y hy=>(by rw[←k1 y hy];exact yh _ _:zN h' y=true)];rw[Am k1,Cu]);simp only[enc];rw[j7 this];exact .fn (by simp[k2]) k3
    ·cases hd
   | _=>simp[dec,dI,dU,dB,dS,dE,qr,dSl,dNs] at hd
  | ag cs=>exact absurd hl h2
  | _=>exact absurd hl h2
def zbV {k:Nat}:∀ {l:List Nat},memN k l=true↔k∈l
 | []=>by simp[memN]
 | a::r=>by
  simp only[memN];cases hb:Nat.beq a k with
  | true=>rw[zQ] at hb;subst hb;simp
  | false =>
   have:a≠k:=fun e=>by subst e;simp[AZ] at hb
   simp only[zbV (l:=r),Ar];exact⟨.inr,fun h=>h.resolve_left (Ne.symm this)⟩
def ye {β:Type} {k:Nat} {d:β}:∀ {l m:List (Nat×β)},k∉l.map (·.1)->look k d (l++m)=look k d m
 | [],_,_=>rfl
 | (a,x)::r,m,h=>by
  simp only[Aw,Ar,not_or] at h;rw[AK,zp,if_neg (Ne.symm h.1)];exact ye h.2
def nW {β:Type} {k:Nat} {d v:β}:∀ {l m:List (Nat×β)},dis1 (l.map (·.1))=true->(k,v)∈l->look k d (l++m)=v
 | (a,x)::r,m,hd,h=>by
  simp only[Aw,dis1,Ai,AU] at hd;rw[AK,zp];rcases Ar.1 h with h|h
  ·cases h;rw[if_pos rfl]
  ·rw[if_neg]
   ·exact nW hd.2 h
   ·intro e;subst e;have:memN a (r.map (·.1))=true:=zbV.2 (Al.2 ⟨_,h,rfl⟩);rw[hd.1] at this;cases this
def zlz {l m:List Nat} (h:dis1 (l++m)=true):dis1 l=true∧∀k∈l,k∉m:=by
 induction l with
 | nil=>exact⟨rfl,by simp⟩
 | cons a l ih =>
  simp only[AK,dis1,Ai,AU] at h;obtain⟨h1,h2⟩:=ih h.2;have hm:a∉l++m:=fun hm=>by rw[zbV.2 hm] at h;cases h.1
  refine⟨?_,fun k hk => ?_⟩
  ·simp only[dis1,Ai,AU];refine⟨?_,h1⟩;cases hb:memN a l with
   | true=>exact absurd (Aj.2 (.inl (zbV.1 hb))) hm
   | false=>rfl
  ·rcases Ar.1 hk with rfl|hk
   ·exact fun hh=>hm (Aj.2 (.inr hh))
   ·exact h2 k hk
def OkRow (h H:THp) (n r:Nat) (v w:TV):Prop:=∃(t:Ty) (y:List t.den),w=.lw r n∧(r,TB.row n t y)∈H∧pRow h r t v=some y
def OkF (h H:THp) (n:Nat) (v w:TV):Prop:=(∃(sh:Sh) (y:sh.den),w=enc sh y∧dec [] sh v=some y)∨∃r,OkRow h H n r v w
def OkB (s0:TSt) (h H:THp) (n r:Nat) (b:TB):Prop :=
 (∃(t:Ty) (y:List t.den) (v:TV),b=.row n t y∧pRow h r t v=some y∧lv h v=v∧jY r (.row n .int []) s0=true)∨(∃(v:Nat) (t:Ty) (y:List t.den),b=.row v t y∧look r .gone h=.row v t y) ∨
 (∃cs vs,b=.var cs∧look r .gone h=.var vs∧cs.length=vs.length∧∀(i:Nat) (c v:TV),cs[i]? = some c->vs[i]? = some v->OkF h H n (lv1 h v) c)
def OkF.mono {h H H':THp} {n:Nat} {v w:TV} (hs:∀p∈H,p∈H') (ho:OkF h H n v w):OkF h H' n v w:=by
 rcases ho with ho|⟨r,t,y,h1,h2,h3⟩
 ·exact .inl ho
 ·exact .inr ⟨r,t,y,h1,hs _ h2,h3⟩
def OkB.mono {s0:TSt} {h H H':THp} {n r:Nat} {b:TB} (hs:∀p∈H,p∈H') (ho:OkB s0 h H n r b):OkB s0 h H' n r b:=by
 rcases ho with ho|ho|⟨cs,vs,h1,h2,h3,h4⟩
 ·exact .inl ho
 ·exact .inr (.inl ho)
 ·exact .inr (.inr ⟨cs,vs,h1,h2,h3,fun i c v hc hv=>(h4 i c v hc hv).mono hs⟩)
structure OkM (s0 s:TSt) (n:Nat) (F:List (Nat×TV)) (H:THp):Prop where
 fr:∀k w,(k,w)∈F->OkF s.hp H n (s.ev (.t k)) w
 hp:∀r b,(r,b)∈H->OkB s0 s.hp H n r b
def iCKs_ok {s0:TSt} {h:THp} {n:Nat}:∀ {cs:List CK} {vs:List TV} {x:CK.denL cs},(ckH cs).all (fun s=>jY s (.row n .int []) s0)=true->(∀v∈vs,lv h v=v)->pCKs h cs vs=some x ->
  (zjt n cs x).1.length=vs.length∧(zjt n cs x).2.map (·.1)=ckH cs∧(∀(i:Nat) (c v:TV),(zjt n cs x).1[i]? = some c->vs[i]? = some v->OkF h (zjt n cs x).2 n v c)∧∀r b,(r,b)∈(zjt n cs x).2->OkB s0 h [] n r b:=by
 have one:∀(c:CK) (v:TV) (x:c.den),(ckH [c]).all (fun s=>jY s (.row n .int []) s0)=true->lv h v=v->pCK h c v=some x->OkF h (iCK n c x).2 n v (iCK n c x).1∧(∀r b,(r,b)∈(iCK n c x).2->OkB s0 h [] n r b)∧(iCK n c x).2.map (·.1)=ckH [c]:=by
  intro c v x hf hl hp;cases c with
  | sh sh=>exact⟨.inl ⟨sh,x,rfl,hp⟩,by simp[iCK],rfl⟩
  | row r t =>refine⟨.inr ⟨r,t,x,rfl,by simp[iCK],hp⟩,fun r' b hm => ?_,rfl⟩;simp only[iCK,Ah,DN] at hm;obtain⟨rfl,rfl⟩:=hm;exact .inl ⟨t,x,v,rfl,hp,hl,by simpa[ckH] using hf⟩
 intro cs
 induction cs with
 | nil =>
  intro vs x _ _ hp;cases vs with
  | nil=>exact⟨rfl,rfl,by simp[zjt],by simp[zjt]⟩
  | cons=>simp[pCKs] at hp
 | cons c cs ih =>
  intro vs x hf hl hp;have ed:(ckH [c]).all (fun s=>jY s (.row n .int []) s0)=true∧(ckH cs).all (fun s=>jY s (.row n .int []) s0)=true:=(by cases c<;>simp_all[ckH]);cases cs with
  | nil =>
   match vs with
   | []=>simp[pCKs] at hp
   | [v] =>
    simp only[pCKs] at hp;obtain⟨h1,h2,h3⟩:=one c v x ed.1 (hl v (by simp)) hp;refine⟨rfl,h3,fun i c' v' hc hv => ?_,h2⟩;cases i with
    | zero=>simp[zjt] at hc hv;subst hc;subst hv;exact h1
    | succ i=>simp at hv
   | _::_::_=>simp[pCKs] at hp
  | cons c' cs =>
   cases vs with
   | nil=>simp[pCKs] at hp
   | cons v vs =>
    simp only[pCKs] at hp;split at hp
    ·rename_i a b ha hb;cases hp;obtain⟨h1,h2,h3⟩:=one c v a ed.1 (hl v (by simp)) ha;obtain⟨k1,k2,k3,k4⟩:=ih ed.2 (fun v hv=>hl v (Ad _ hv)) hb;refine⟨by simp only[zjt,Ax,k1], ?_,fun i e w he hw => ?_,fun r b' hm => ?_⟩
     ·simp only[zjt,Bc,h3,k2];cases c<;>rfl
     ·simp only[zjt] at he ⊢;cases i with
      | zero=>simp at he hw;subst he;subst hw;exact h1.mono fun p hp=>Aj.2 (.inl hp)
      | succ i=>simp only[A4] at he hw;exact (k3 i e w he hw).mono fun p hp=>Aj.2 (.inr hp)
     ·simp only[zjt] at hm;rcases Aj.1 hm with hm|hm
      ·exact h2 r b' hm
      ·exact k4 r b' hm
    ·cases hp
def eqVer_ok {a b:Option Nat} (h:eqVer a b=true):∃v,a=some v∧b=some v:=by cases a<;>cases b<;>simp[eqVer] at h;exact⟨_,rfl,by rw[h]⟩
def lv1_lv (h:THp) (y:TV):lv h (lv1 h y)=lv1 h y:=by rw[zbr (zag h y),zah]
def iMK_ok {s0 s:TSt} {n:Nat} (m:MK) (x:m.den) (hf:okK s0 n m=true) (hp:pMK s0 s m=some x):OkM s0 s n (iMK n s0.hp m x).1 (iMK n s0.hp m x).2∧(iMK n s0.hp m x).1.map (·.1)=ksF [m]∧(iMK n s0.hp m x).2.map (·.1)=ksH [m]:=by
 cases m with
 | slot k sh=>exact⟨⟨fun k' w hm=>by simp[iMK] at hm;obtain⟨rfl,rfl⟩:=hm;exact .inl ⟨sh,x,rfl,hp⟩,fun r b hm=>by simp[iMK] at hm⟩,rfl,rfl⟩
 | row k r t =>
  refine⟨⟨fun k' w hm => ?_,fun r' b hm => ?_⟩,rfl,rfl⟩
  ·simp only[iMK,Ah,DN] at hm;obtain⟨rfl,rfl⟩:=hm;exact .inr ⟨r,t,x,rfl,by simp[iMK],hp⟩
  ·simp only[iMK,Ah,DN] at hm;obtain⟨rfl,rfl⟩:=hm;exact .inl ⟨t,x,_,rfl,hp,zat s _,hf⟩
 | rowH r t =>
  refine⟨⟨fun k' w hm=>by simp[iMK] at hm,fun r' b hm => ?_⟩,rfl,rfl⟩;simp only[iMK,Ah,DN] at hm;obtain⟨rfl,rfl⟩:=hm;simp only[pMK] at hp;split at hp
  ·rename_i v t' xs hl he;obtain⟨rfl,rfl⟩:=zX hp;obtain⟨v',h1,h2⟩:=eqVer_ok he;simp only[verOf,hl,DM] at h2;subst h2;exact .inr (.inl ⟨v,t',x,by rw[h1];rfl,hl⟩)
  ·cases hp
 | var r cs =>
  simp only[pMK] at hp;split at hp
  ·rename_i vs hl;obtain⟨k1,k2,k3,k4⟩:=iCKs_ok (n:=n) hf (fun v hv=>by obtain⟨z,hz,rfl⟩:=Al.1 hv;exact lv1_lv _ z) hp;refine⟨⟨fun k' w hm=>by simp[iMK] at hm,fun r' b hm => ?_⟩,rfl, ?_⟩
   ·simp only[iMK] at hm ⊢;rcases Ar.1 hm with hm|hm
    ·simp only[DN] at hm;obtain⟨rfl,rfl⟩:=hm;refine .inr (.inr ⟨_,vs,rfl,hl,by simpa using k1,fun i c v hc hv => ?_⟩);exact (k3 i c (lv1 s.hp v) hc (by simp[hv])).mono fun p hp=>Ad _ hp
    ·exact (k4 r' b hm).mono (by simp)
   ·simp only[iMK,Aw,k2,ksH,Bl]
  ·cases hp
def iMKs_ok {s0 s:TSt} {n:Nat}:∀(ks:List MK) (x:MK.denL ks),ks.all (okK s0 n)=true->pMKs s0 s ks=some x->OkM s0 s n (zjs n s0.hp ks x).1 (zjs n s0.hp ks x).2∧(zjs n s0.hp ks x).1.map (·.1)=ksF ks∧(zjs n s0.hp ks x).2.map (·.1)=ksH ks:=by
 intro ks
 induction ks with
 | nil=>intro x _ _;exact⟨⟨by simp[zjs],by simp[zjs]⟩,rfl,rfl⟩
 | cons m ks ih =>
  intro x hf hp;simp only[Bg,Ai] at hf;cases ks with
  | nil=>exact iMK_ok m x hf.1 hp
  | cons m' ks =>
   simp only[pMKs] at hp;split at hp
   ·rename_i a b ha hb;cases hp;obtain⟨h1,h2,h3⟩:=iMK_ok (n:=n) m a hf.1 ha;obtain⟨k1,k2,k3⟩:=ih b hf.2 hb;refine⟨⟨fun k w hm => ?_,fun r b' hm => ?_⟩, ?_, ?_⟩
    ·simp only[zjs] at hm ⊢;rcases Aj.1 hm with hm|hm
     ·exact (h1.fr k w hm).mono fun p hp=>Aj.2 (.inl hp)
     ·exact (k1.fr k w hm).mono fun p hp=>Aj.2 (.inr hp)
    ·simp only[zjs] at hm ⊢;rcases Aj.1 hm with hm|hm
     ·exact (h1.hp r b' hm).mono fun p hp=>Aj.2 (.inl hp)
     ·exact (k1.hp r b' hm).mono fun p hp=>Aj.2 (.inr hp)
    ·simp only[zjs,Bc,h2,k2];cases m<;>rfl
    ·simp only[zjs,Bc,h3,k3];cases m<;>simp[ksH]
   ·cases hp
end
end
section
open Go Go.RowKit
section
variable {S:Seat} {α:Type} {C:List CSpec}
def lo_of {h h':THp} {y:TV} (hd:∀r∈rf1 y,look r .gone h'=look r .gone h∨((∃a,look r .gone h=.var a)∧∃b,look r .gone h'=.var b)∨zi h' y=false):LO h h' y:=by
 cases y with
 | lw r v =>
  rcases hd r (by simp[rf1]) with e|⟨⟨a,e1⟩,b,e2⟩|e
  ·exact .inr ⟨by simp only[zi,e],by
    simp only[A1,lv1,e]
    repeat' split
    all_goals simp only[av1,e]⟩
  ·exact .inl (by simp only[zi,e2])
  ·exact .inl e
 | ls r v off len =>
  rcases hd r (by simp[rf1]) with e|⟨⟨a,e1⟩,b,e2⟩|e
  ·exact .inr ⟨by simp only[zi,e],by
    simp only[A1,lv1,e]
    repeat' split
    all_goals simp only[av1,e]⟩
  ·exact .inl (by simp only[zi,e2])
  ·exact .inl e
 | pe r v i off =>
  rcases hd r (by simp[rf1]) with e|⟨⟨a,e1⟩,b,e2⟩|e
  ·exact .inr ⟨by simp only[zi,e],by
    simp only[A1,lv1,e]
    repeat' split
    all_goals simp only[av1,e]⟩
  ·exact .inl (by simp only[zi,e2])
  ·exact .inl e
 | pv r off =>
  rcases hd r (by simp[rf1]) with e|⟨⟨a,e1⟩,b,e2⟩|e
  ·exact .inr ⟨by simp only[zi,e],by
    simp only[A1,lv1,e]
    repeat' split
    all_goals simp only[av1]⟩
  ·exact .inr ⟨by simp only[zi,e1,e2],by simp only[A1,lv1,e1,e2,av1]⟩
  ·exact .inl e
 | ns t x=>cases x<;>exact .inr ⟨rfl,rfl⟩
 | _=>exact .inr ⟨rfl,rfl⟩
def freeB_fr {d:Nat} {b:TB} {s:TSt} (hf:jY d b s=true) (k:Nat):∀y∈eK (look k .bot s.fr),cl1 d b y=false:=by
 rcases zai (k:=k) (d:=TV.bot) (l:=s.fr) with h|h
 ·rw[h];intro y hy;simp only[eK,jf,Ah] at hy;subst hy;cases b<;>rfl
 ·have:=Af.1 (AL.1 hf).1 _ h;exact zhm (by simpa using this)
def freeB_hp {d:Nat} {b:TB} {s:TSt} (hf:jY d b s=true) {r:Nat} {cs:List TV} (hl:look r .gone s.hp=.var cs):∀y∈cs,cl1 d b y=false:=by
 intro y hy;rcases zai (k:=r) (d:=TB.gone) (l:=s.hp) with h|h
 ·rw[h] at hl;cases hl
 ·rw[hl] at h;have:=Af.1 (AL.1 hf).2 _ h;simp only at this;simpa using Af.1 this y hy
def pRow_ok {h:THp} {r:Nat} {t:Ty} {v:TV} {y:List t.den} (hp:pRow h r t v=some y):(v=.nl∧look r .gone h=.gone∧y=[])∨∃v' dV,v=.lw r v'∧look r .gone h=.row dV t y:=by
 unfold pRow at hp;split at hp
 ·split at hp
  ·rename_i h1 h2;cases hp;refine .inl ⟨rfl, ?_,rfl⟩;cases hq:look r .gone h<;>simp_all[kF]
  ·cases hp
 ·rename_i s' v';split at hp
  ·rename_i dV t' xs hb hl;rw[zQ] at hb;subst hb;obtain⟨rfl,rfl⟩:=zX hp;exact .inr ⟨v',dV,rfl,hl⟩
  ·cases hp
 ·cases hp
def subN_ok {l m:List Nat} (h:subN l m=true):∀k∈l,k∈m:=fun k hk=>zbV.1 (Af.1 h k hk)
def zkQ {β:Type} {l m:List β} {n:List β} (h:n=l++m):n.take (n.length-m.length)=l:=by subst h;simp
def inj_ok {m:Mods} {s0 s:TSt} {x:MK.denL m.ks} (ho:Over s0 s) (ht:told m s0 s=true) (hp:pMKs s0 s m.ks=some x):(zb S).cv s.toA (inj m s0 x).toA:=by
 obtain⟨⟨lf,ef⟩,lh,eh⟩:=ho;unfold told at ht;simp only[Ai] at ht;obtain⟨⟨t1,⟨t2,t3,t4⟩,t5⟩,t6⟩:=ht;rw[zkQ ef] at t2;rw[zkQ eh] at t3;have t2:=subN_ok t2;have t3:=subN_ok t3;obtain⟨⟨m1,m2⟩,kf,kh⟩:=iMKs_ok (s0:=s0) (s:=s) (n:=s0.ctr) m.ks x t1 hp;generalize hF:(zjs s0.ctr s0.hp m.ks x).1=F at m1 m2 kf kh;generalize hH:(zjs s0.ctr s0.hp m.ks x).2=H at m1 m2 kf kh;obtain⟨d1,d2⟩:=zlz t4;obtain⟨d3,d4⟩:=zlz t5;rw[←kh] at d1 d2;rw[←kf] at d3 d4;have ifr:(inj m s0 x).fr=F++(m.w.map fun k=>(k,TV.bot))++s0.fr:=by rw[←hF];rfl
 have ihp:(inj m s0 x).hp=H++(m.wh.map fun k=>(k,TB.gone))++s0.hp:=by rw[←hH];rfl
 have wkeys:(m.w.map fun k=>(k,TV.bot)).map (·.1)=m.w:=by rw[A6];exact Cu _
 have whkeys:(m.wh.map fun k=>(k,TB.gone)).map (·.1)=m.wh:=by rw[A6];exact Cu _
 -- the heap,name by name
 have iN:∀r b,(r,b)∈H->look r .gone (inj m s0 x).hp=b:=fun r b hb=>by rw[ihp,AP];exact nW d1 hb
 have gones:∀(l:List Nat) (r:Nat) (rest:THp),r∈l->look r .gone ((l.map fun k=>(k,TB.gone))++rest)=.gone:=by
  intro l
  induction l with
  | nil=>intro r rest h;cases h
  | cons a l ih =>
   intro r rest h;simp only[Aw,AK,zp];split
   ·rfl
   ·rename_i ah;exact ih r rest ((Ar.1 h).resolve_left (Ne.symm ah))
 have bots:∀(l:List Nat) (k:Nat) (rest:List (Nat×TV)),k∈l->look k .bot ((l.map fun k=>(k,TV.bot))++rest)=.bot:=by
  intro l
  induction l with
  | nil=>intro r rest h;cases h
  | cons a l ih =>
   intro r rest h;simp only[Aw,AK,zp];split
   ·rfl
   ·rename_i ah;exact ih r rest ((Ar.1 h).resolve_left (Ne.symm ah))
 have l8:∀r,r∈m.wh->look r .gone (inj m s0 x).hp=.gone:=fun r hr=>(by have hn:r∉H.map (·.1):=fun h=>d2 r h hr;rw[ihp,AP,ye hn];exact gones m.wh r s0.hp hr);have fN:∀r,r∉H.map (·.1)->r∉m.wh->look r .gone (inj m s0 x).hp=look r .gone s.hp∧look r .gone s0.hp=look r .gone s.hp:=fun r h1 h2=>by
  rw[ihp,AP,ye h1,ye (by rw[whkeys];exact h2),eh,ye]
  ·exact⟨rfl,rfl⟩
  ·intro hm;rcases Aj.1 (t3 r hm) with h|h
   ·rw[←kh] at h;exact h1 h
   ·exact h2 h
 have cases3:∀r,(∃b,(r,b)∈H)∨(r∈m.wh)∨(r∉H.map (·.1)∧r∉m.wh):=fun r=>by
  by_cases h1:r∈H.map (·.1)
  ·obtain⟨⟨a,b⟩,hm,rfl⟩:=Al.1 h1;exact .inl ⟨b,hm⟩
  ·by_cases h2:r∈m.wh
   ·exact .inr (.inl h2)
   ·exact .inr (.inr ⟨h1,h2⟩)
 -- eK of the elder state
 have ui:∀y,(∀r b,(r,b)∈H->jY r (.row s0.ctr .int []) s0=true->cl1 r (.row s0.ctr .int []) y=false)->LO s.hp (inj m s0 x).hp y:=by
  intro y hy;refine lo_of fun r hr => ?_;rcases cases3 r with⟨b,hb⟩|hw|⟨h1,h2⟩
  ·have hl:=iN r b hb;rcases m2 r b hb with⟨t,z,v,rfl,dv,_,hf⟩|⟨v,t,z,rfl,hq⟩|⟨cs,vs,rfl,hq,_,_⟩
   ·right;right;have:=hy r _ hb hf;cases y with
    | lw r' v' =>simp only[rf1,Ah] at hr;subst hr;simp only[cl1,AZ,Bv] at this;simp only[zi,hl,this]
    | ls r' v' off len =>simp only[rf1,Ah] at hr;subst hr;simp only[cl1,AZ,Bv] at this;simp only[zi,hl,this]
    | pe r' v' i off =>simp only[rf1,Ah] at hr;subst hr;simp only[cl1,AZ,Bv] at this;simp only[zi,hl,this]
    | pv r' off =>simp only[rf1,Ah] at hr;subst hr;simp only[zi,hl]
    | _=>simp[rf1] at hr
   ·exact .inl (hl.trans hq.symm)
   ·exact .inr (.inl ⟨⟨vs,hq⟩,cs,hl⟩)
  ·right;right;have hl:=l8 r hw;cases y with
   | lw r' v'=>simp only[rf1,Ah] at hr;subst hr;simp only[zi,hl]
   | ls r' v' off len=>simp only[rf1,Ah] at hr;subst hr;simp only[zi,hl]
   | pe r' v' i off=>simp only[rf1,Ah] at hr;subst hr;simp only[zi,hl]
   | pv r' off=>simp only[rf1,Ah] at hr;subst hr;simp only[zi,hl]
   | _=>simp[rf1] at hr
  ·exact .inl (fN r h1 h2).1
 -- values that are told
 let N:Nat->Prop:=fun r=>s.toA.hp r=none
 have mL:∀v w,lv s.hp v=v->OkF s.hp H s0.ctr v w->Wk N (av s.hp v) (Av (inj m s0 x).hp w):=by
  rintro v w hl (⟨sh,y,rfl,hd⟩|⟨r,t,y,rfl,hm,dv⟩)
  ·exact decW hl hd _
  ·have mh:=iN r _ hm;have e3:lv (inj m s0 x).hp (.lw r s0.ctr)=.lw r s0.ctr:=by simp only[lv,lv2,lv1,mh,AZ]
   rw[j7 e3,zdx mh];rcases pRow_ok dv with⟨rfl,hg,rfl⟩|⟨v',dV,rfl,hg⟩
   ·exact .row0 r t.z (by simp only[N,qm,hg,blk])
   ·rw[zdx hg];exact .rfl _
 refine zeS (SWk.mk' (N:=N) (fun k => ?_) (fun r => ?_) fun r hr=>hr)
 ·rw[iB,iB];by_cases h1:k∈F.map (·.1)
  ·obtain⟨⟨k',w⟩,hm,rfl⟩:=Al.1 h1;have e:look k' .bot (inj m s0 x).fr=w:=by rw[ifr,AP];exact nW d3 hm
   rw[e,←Av_lv];have:=mL _ w (zat s (.t k')) (m1 k' w hm);rw[←j7 (zat s (.t k'))] at this;exact this
  ·by_cases h2:k∈m.w
   ·have e:look k .bot (inj m s0 x).fr=.bot:=(by rw[ifr,AP,ye h1];exact bots m.w k s0.fr h2);rw[e];exact .bot _
   ·have e:look k .bot (inj m s0 x).fr=look k .bot s0.fr:=(by rw[ifr,AP,ye h1,ye (by rw[wkeys];exact h2)]);have e2:look k .bot s.fr=look k .bot s0.fr:=by
     rw[ef,ye];intro hm;rcases Aj.1 (t2 k hm) with h|h
     ·rw[←kf] at h;exact h1 h
     ·exact h2 h
    rw[e,e2];exact LO.wk fun y hy=>ui y fun r b hb hf=>freeB_fr hf k y hy
 ·rw[qm,qm];rcases cases3 r with⟨b,hb⟩|hw|⟨h1,h2⟩
  ·rw[iN r b hb];rcases m2 r b hb with⟨t,z,v,rfl,dv,hl,hf⟩|⟨v,t,z,rfl,hq⟩|⟨cs,vs,rfl,hq,hlen,an⟩
   ·rcases pRow_ok dv with⟨rfl,hg,rfl⟩|⟨v',dV,rfl,hg⟩
    ·exact .inr (.inr ⟨by rw[hg];rfl,t.z,rfl⟩)
    ·exact .inr (.inl ⟨_,_,by rw[hg];rfl,rfl,.rfl _⟩)
   ·exact .inr (.inl ⟨_,_,by rw[hq];rfl,rfl,.rfl _⟩)
   ·refine .inr (.inl ⟨_,_,by rw[hq];rfl,rfl,.var (by simp[hlen]) fun i a b ha hb => ?_⟩);simp only[As,Ag] at ha hb;obtain⟨v,hv,rfl⟩:=ha;obtain⟨c,hc,rfl⟩:=hb;have:=mL _ c (lv1_lv s.hp v) (an i c v hc hv);rw[zhx (zag _ _)] at this;have e:Av (inj m s0 x).hp c=A1 (inj m s0 x).hp c∨Wk N (av1 s.hp (lv1 s.hp v)) (A1 (inj m s0 x).hp c):=by
     by_cases hx:leaf c=true
     ·exact .inl (qN hx)
     ·right;have:A1 (inj m s0 x).hp c=.bot:=by cases c<;>first|rfl|simp[leaf] at hx
      rw[this];exact .bot _
    rcases e with e|e
    ·rw[e] at this;exact this
    ·exact e
  ·rw[l8 r hw];refine .inl ⟨rfl,fun hf => ?_⟩;have:=Af.1 t6 r hw;rw[hf] at this;cases this
  ·obtain⟨e1,e2⟩:=fN r h1 h2;rw[e1];cases hq:look r .gone s.hp with
   | var vs =>
    refine .inr (.inl ⟨_,_,rfl,rfl,.var (by simp) fun i a b ha hb => ?_⟩);simp only[As,Ag] at ha hb;obtain⟨v,hv,rfl⟩:=ha;obtain⟨v',kU,rfl⟩:=hb;rw[hv] at kU;cases kU;have fO:=ui v fun r' b' aw hf=>freeB_hp hf (e2.trans hq) v (Ae hv);rcases fO with fO|fO
    ·have:=zbG fO;simp only[A1] at this;rw[this];exact .bot _
    ·have:=fO.av;simp only[A1] at this;rw[this];exact .rfl _
   | row v t xs=>exact .inr (.inl ⟨_,_,rfl,rfl,.rfl _⟩)
   | _=>exact .inl ⟨rfl,fun _=>rfl⟩
def zbm {m:Mods} {s0 s:TSt} {x:MK.denL m.ks} (ho:Over s0 s) (hp:zik m s0 s=some x):(zb S).cv s.toA (inj m s0 x).toA:=by
 unfold zik at hp;split at hp
 ·rename_i s1 aM;unfold TSt.frzS at aM;split at aM
  ·rename_i h hfz;cases aM;split at hp
   ·rename_i ht;exact zhk (zcL _ _ _ hfz) (inj_ok (ho.trans (Over.push s h)) ht hp)
   ·cases hp
  ·cases aM
 ·cases hp
def Over.inj (m:Mods) (s0:TSt) (x:MK.denL m.ks):Over s0 (inj m s0 x):=⟨⟨_,rfl⟩,_,rfl⟩
def mX {σ:Type} {X:Option (Sum σ α)} {k:σ->Option α} {r:α} (h:jn X k=some r):(∃y,X=some (.inl y)∧k y=some r)∨X=some (.inr r):=by
 unfold jn at h;split at h
 ·exact .inl ⟨_,rfl,h⟩
 ·cases h;exact .inr rfl
 ·cases h
def zaF {σ:Type} {x:Option σ} {y:Sum σ α} (h:zt x=some y):∃z,x=some z∧y=.inl z:=by
 cases x with
 | none=>cases h
 | some z=>cases h;exact⟨z,rfl,rfl⟩
def nh {σ:Type} {x:Option α} {y:Sum σ α} (h:ziI x=some y):∃z,x=some z∧y=.inr z:=by
 cases x with
 | none=>cases h
 | some z=>cases h;exact⟨z,rfl,rfl⟩
def zgU {σ:Type} {x:Option σ} {y:LR σ α} (h:nxO x=some y):∃z,x=some z∧y=.nx z:=by
 cases x with
 | none=>cases h
 | some z=>cases h;exact⟨z,rfl,rfl⟩
def zhe {σ:Type} {x:Option σ} {y:LR σ α} (h:dnO x=some y):∃z,x=some z∧y=.dn z:=by
 cases x with
 | none=>cases h
 | some z=>cases h;exact⟨z,rfl,rfl⟩
def wV {σ:Type} {x:Option α} {y:LR σ α} (h:yk x=some y):∃z,x=some z∧y=.fin z:=by
 cases x with
 | none=>cases h
 | some z=>cases h;exact⟨z,rfl,rfl⟩
def zlf {σ:Type} {B:σ->Option (LR σ α)} {x:σ} {y:Sum σ α} (h:lpO B x=some y):∃n,lpN B n x=some y:=by
 unfold lpO at h;split at h
 ·exact⟨_,h⟩
 ·cases h
def zed (hC:zK S C):∀(c:TCode) {α:Type} (s:TSt) (k:AExit->TSt->Option α) (r:α),run C c s k=some r->∃e s',k e s'=some r∧Ex (zb S) c.er s.toA e s'.toA∧Over s s':=by
 intro c
 induction c with
 | skip=>intro α s k r h;exact⟨_,s,h,.skip _,.refl s⟩
 | ret=>intro α s k r h;exact⟨_,s,h,.ret _,.refl s⟩
 | exit id=>intro α s k r h;exact⟨_,s,h,.exit id _,.refl s⟩
 | region ops tys dr =>intro α s k r h;obtain⟨s',h1,h2,h3⟩:=jy hC ops tys s h;exact⟨_,s',h1,.region h2,h3⟩
 | regionJ m ops tys dr =>
  intro α s k r h;simp only[run] at h;rcases mX h with⟨y,h1,h⟩|h1
  ·obtain⟨s',h2,h3,h4⟩:=jy hC ops tys s h1;obtain⟨z,hz,e⟩:=zaF h2;cases e;exact⟨_,_,h,.cvR (.region h3) (zbm h4 hz),Over.inj m s y⟩
  ·obtain⟨s',h2,h3,h4⟩:=jy hC ops tys s h1;obtain⟨z,hz,e⟩:=zaF h2;cases e
 | seq a b iha ihb =>
  intro α s k r h;simp only[run] at h;obtain⟨e,s',h1,h2,h3⟩:=iha s _ r h;cases e with
  | norm =>obtain⟨e2,s2,h4,h5,h6⟩:=ihb s' k r h1;exact⟨e2,s2,h4,.seqN h2 h5,h3.trans h6⟩
  | exit id=>exact⟨_,s',h1,.seqE h2 (by simp),h3⟩
  | ret=>exact⟨_,s',h1,.seqE h2 (by simp),h3⟩
 | cond c a b iha ihb =>
  intro α s k r h;simp only[run] at h;split at h
  ·rename_i x hx;have ec:s.toA.ev c=.v (.bool x):=by rw[zU,hx];rfl
   rcases zhs h with⟨rfl,h⟩|⟨rfl,h⟩
   ·obtain⟨e,s',h1,h2,h3⟩:=iha s k r h;exact⟨e,s',h1,.cond ec (by simpa using h2),h3⟩
   ·obtain⟨e,s',h1,h2,h3⟩:=ihb s k r h;exact⟨e,s',h1,.cond ec (by simpa using h2),h3⟩
  ·cases h
 | condJ m c a b iha ihb =>
  intro α s k r h;simp only[run] at h;split at h
  ·rename_i x hx;have ec:s.toA.ev c=.v (.bool x):=by rw[zU,hx];rfl
   have main:∀(t:Bool) (c':TCode),(c'=if t then a else b)->x=t->∀(X:Sum (MK.denL m.ks) α),run C c' s (fun e s'=>match e with | .norm=>(zt (zik m s s'):Option (Sum (MK.denL m.ks) α))|e=>ziI (k e s'))=some X ->
     (∀ {β:Type} (s:TSt) (k:AExit->TSt->Option β) (r:β),run C c' s k=some r->∃e s',k e s'=some r∧Ex (zb S) c'.er s.toA e s'.toA∧Over s s') ->
     (∀y,X=.inl y->k .norm (Ab.inj m s y)=some r->∃e s',k e s'=some r∧Ex (zb S) (.cond c a.er b.er) s.toA e s'.toA∧Over s s')∧(X=.inr r->∃e s',k e s'=some r∧Ex (zb S) (.cond c a.er b.er) s.toA e s'.toA∧Over s s'):=by
    intro t c' fh ht X hX ih;subst ht;obtain⟨e,s',h1,h2,h3⟩:=ih s _ X hX;have hex:Ex (zb S) (.cond c a.er b.er) s.toA e s'.toA:=.cond ec (by subst fh;cases x<;>simpa using h2);cases e with
    | norm =>obtain⟨z,hz,rfl⟩:=zaF h1;refine⟨fun y hy hk => ?_,fun hy=>nomatch hy⟩;cases hy;exact⟨_,_,hk,.cvR hex (zbm h3 hz),Over.inj m s z⟩
    | exit id =>obtain⟨z,hz,rfl⟩:=nh h1;exact⟨fun y hy=>(nomatch hy),fun hy=>by cases hy;exact⟨_,s',hz,hex,h3⟩⟩
    | ret =>obtain⟨z,hz,rfl⟩:=nh h1;exact⟨fun y hy=>(nomatch hy),fun hy=>by cases hy;exact⟨_,s',hz,hex,h3⟩⟩
   rcases mX h with⟨y,h1,h⟩|h1
   ·rcases zhs h1 with⟨bq,h1⟩|⟨bq,h1⟩
    ·exact (main true a rfl bq _ h1 iha).1 y rfl h
    ·exact (main false b rfl bq _ h1 ihb).1 y rfl h
   ·rcases zhs h1 with⟨bq,h1⟩|⟨bq,h1⟩
    ·exact (main true a rfl bq _ h1 iha).2 rfl
    ·exact (main false b rfl bq _ h1 ihb).2 rfl
  ·cases h
 | block id b ih =>
  intro α s k r h;simp only[run] at h;obtain⟨e,s',h1,h2,h3⟩:=ih s _ r h;cases e with
  | norm=>exact⟨_,s',h1,.blockO h2 (by simp),h3⟩
  | ret=>exact⟨_,s',h1,.blockO h2 (by simp),h3⟩
  | exit i =>
   simp only at h1;split at h1
   ·rename_i hb;rw[zQ] at hb;subst hb;exact⟨_,s',h1,.blockX h2,h3⟩
   ·rename_i hb;have ah:i≠id:=fun e=>by subst e;rw[AZ] at hb;cases hb
    exact⟨_,s',h1,.blockO h2 (by simpa using ah),h3⟩
 | blockJ m id b ih =>
  intro α s k r h;simp only[run] at h;have main:∀(X:Sum (MK.denL m.ks) α),run C b s (fun e s'=>match e with
   | .norm=>(zt (zik m s s'):Option (Sum (MK.denL m.ks) α))
   | .exit i=>(match Nat.beq i id with|true=>zt (zik m s s')|false=>ziI (k (.exit i) s'))
   | .ret=>ziI (k .ret s'))=some X ->
    (∀y,X=.inl y->k .norm (Ab.inj m s y)=some r->∃e s',k e s'=some r∧Ex (zb S) (.block id b.er) s.toA e s'.toA∧Over s s')∧(X=.inr r->∃e s',k e s'=some r∧Ex (zb S) (.block id b.er) s.toA e s'.toA∧Over s s'):=by
   intro X hX;obtain⟨e,s',h1,h2,h3⟩:=ih s _ X hX;cases e with
   | norm =>obtain⟨z,hz,rfl⟩:=zaF h1;refine⟨fun y hy hk => ?_,fun hy=>nomatch hy⟩;cases hy;exact⟨_,_,hk,.cvR (.blockO h2 (by simp)) (zbm h3 hz),Over.inj m s z⟩
   | ret =>obtain⟨z,hz,rfl⟩:=nh h1;exact⟨fun y hy=>(nomatch hy),fun hy=>by cases hy;exact⟨_,s',hz,.blockO h2 (by simp),h3⟩⟩
   | exit i =>
    simp only at h1;split at h1
    ·rename_i hb;rw[zQ] at hb;subst hb;obtain⟨z,hz,rfl⟩:=zaF h1;refine⟨fun y hy hk => ?_,fun hy=>nomatch hy⟩;cases hy;exact⟨_,_,hk,.cvR (.blockX h2) (zbm h3 hz),Over.inj m s z⟩
    ·rename_i hb;have ah:i≠id:=fun e=>by subst e;rw[AZ] at hb;cases hb
     obtain⟨z,hz,rfl⟩:=nh h1;exact⟨fun y hy=>(nomatch hy),fun hy=>by cases hy;exact⟨_,s',hz,.blockO h2 (by simpa using ah),h3⟩⟩
  rcases mX h with⟨y,h1,h⟩|h1
  ·exact (main _ h1).1 y rfl h
  ·exact (main _ h1).2 rfl
 | loop m id b ih =>
  intro α s k r h;simp only[run] at h;split at h
  ·cases h
  ·rename_i x0 aC;have pre:(zb S).cv s.toA (Ab.inj m s x0).toA:=zbm (.refl s) aC;have rounds:∀(n:Nat) (x:MK.denL m.ks) (X:Sum (MK.denL m.ks) α),lpN (fun x=>run C b (Ab.inj m s x) fun e s'=>match e with
    | .norm=>(nxO (zik m s s'):Option (LR (MK.denL m.ks) α))
    | .exit i=>(match Nat.beq i id with|true=>dnO (zik m s s')|false=>yk (k (.exit i) s'))
    | .ret=>yk (k .ret s')) n x=some X ->
     (∀y,X=.inl y->Ex (zb S) (.loop b.er) (Ab.inj m s x).toA (.exit id) (Ab.inj m s y).toA)∧(∀a,X=.inr a->∃e s',k e s'=some a∧e≠.exit id∧Ex (zb S) (.loop b.er) (Ab.inj m s x).toA e s'.toA∧Over s s'):=by
    intro n
    induction n with
    | zero=>intro x X h;cases h
    | succ n ihn =>
     intro x X h;simp only[lpN] at h;split at h
     ·rename_i y hy;obtain⟨e,s',h1,h2,h3⟩:=ih (Ab.inj m s x) _ _ hy;have ho:=(Over.inj m s x).trans h3;have hn:e=.norm∧zik m s s'=some y:=by
       cases e with
       | norm=>obtain⟨z,hz,e⟩:=zgU h1;cases e;exact⟨rfl,hz⟩
       | ret=>obtain⟨z,hz,e⟩:=wV h1;cases e
       | exit i =>
        simp only at h1;split at h1
        ·obtain⟨z,hz,e⟩:=zhe h1;cases e
        ·obtain⟨z,hz,e⟩:=wV h1;cases e
      obtain⟨rfl,hz⟩:=hn;have h4:Ex (zb S) b.er (Ab.inj m s x).toA .norm (Ab.inj m s y).toA:=.cvR h2 (zbm ho hz);obtain⟨k1,k2⟩:=ihn y X h;exact⟨fun y' fG=>.loopN h4 (k1 y' fG),fun a ha=>by
       obtain⟨e,s2,j1,j2,j3,j4⟩:=k2 a ha;exact⟨e,s2,j1,j2,.loopN h4 j3,j4⟩⟩
     ·rename_i y hy;cases h;obtain⟨e,s',h1,h2,h3⟩:=ih (Ab.inj m s x) _ _ hy;have ho:=(Over.inj m s x).trans h3;have hn:e=.exit id∧zik m s s'=some y:=by
       cases e with
       | norm=>obtain⟨z,hz,e⟩:=zgU h1;cases e
       | ret=>obtain⟨z,hz,e⟩:=wV h1;cases e
       | exit i =>
        simp only at h1;split at h1
        ·rename_i hb;rw[zQ] at hb;subst hb;obtain⟨z,hz,e⟩:=zhe h1;cases e;exact⟨rfl,hz⟩
        ·obtain⟨z,hz,e⟩:=wV h1;cases e
      obtain⟨rfl,hz⟩:=hn;exact⟨fun y' fG=>(by cases fG;exact .loopE (.cvR h2 (zbm ho hz)) (by simp)),fun a ha=>nomatch ha⟩
     ·rename_i a hy;cases h;obtain⟨e,s',h1,h2,h3⟩:=ih (Ab.inj m s x) _ _ hy;have ho:=(Over.inj m s x).trans h3;refine⟨fun y' fG=>(nomatch fG),fun a' eS => ?_⟩;cases eS;cases e with
      | norm=>obtain⟨z,hz,e⟩:=zgU h1;cases e
      | ret=>obtain⟨z,hz,e⟩:=wV h1;cases e;exact⟨_,s',hz,by simp,.loopE h2 (by simp),ho⟩
      | exit i =>
       simp only at h1;split at h1
       ·obtain⟨z,hz,e⟩:=zhe h1;cases e
       ·rename_i hb;have ah:i≠id:=fun e=>by subst e;rw[AZ] at hb;cases hb
        obtain⟨z,hz,e⟩:=wV h1;cases e;exact⟨_,s',hz,by simpa using ah,.loopE h2 (by simp),ho⟩
     ·cases h
   rcases mX h with⟨y,h1,h⟩|h1
   ·obtain⟨n,hn⟩:=zlf h1;exact⟨_,_,h,.cv pre (.blockX ((rounds n x0 _ hn).1 y rfl)),Over.inj m s y⟩
   ·obtain⟨n,hn⟩:=zlf h1;obtain⟨e,s',j1,j2,j3,j4⟩:=(rounds n x0 _ hn).2 r rfl;exact⟨e,s',j1,.cv pre (.blockO j3 j2),j4⟩
end
end
section
open Go Go.RowKit
section
variable {S:Seat} {C:List CSpec}
def RW1 (x y:AV):Prop:=x=y∨(zG x=false∧zG y=false∧Wk (fun _=>False) x y)∨(x=aN∧∃z,y=.own z [])
def zhy {S:Seat} {A:Nat->Prop} {w:World} {b?:Option Nat} {x y:AV} {v:Value} (h:RW1 x y) (ha:zap S A w b? x v):zap S A w b? y v:=by
 rcases h with rfl|⟨h1,h2,h3⟩|⟨rfl,z,rfl⟩
 ·exact ha
 ·have eS:b? = none∧VR0 S A w x v:=by
   cases x with
   | own z es=>simp[zG] at h1
   | _=>exact ha
  have:b? = none∧VR0 S A w y v:=⟨eS.1,eS.2.wk h3⟩;cases y with
  | own z es=>simp[zG] at h2
  | _=>exact this
 ·obtain⟨h1,h2⟩:=ha;have:v=.slice none 0 0:=VR.v_inv (σ:=fun _=>none) (.of0 h2);exact⟨by simp,.inl ⟨h1,rfl,this⟩⟩
def qv:AV->Bool
 | .tup _=>false
 | _=>true
def zeh {S:Seat} {A:Nat->Prop} {w:World} {β:Nat->Option Nat} {x y:AV} {v:Value} (hx:qv x=true) (hy:qv y=true) (h:RW1 x y) (hv:zbk S A w β x v):zbk S A w β y v:=by
 have kU:zap S A w (β 0) x v:=by
  cases x with
  | tup=>simp[qv] at hx
  | _=>exact hv
 have:=zhy h kU;cases y with
 | tup=>simp[qv] at hy
 | _=>exact this
def zjR {f:Nat} {as:List AV} {x y:AV} {outs:zdy} (hx:qv x=true) (hy:qv y=true) (h:RW1 x y) (hr:(zb S).ret f as x outs):(zb S).ret f as y outs:=by intro g hg;have h2:=hr g hg;refine fun A w vs ι hl hA hι hJ ha=>(h2 A w vs ι hl hA hι hJ ha).mono ?_;rintro e w' ⟨v,he,hk,hj,β,hβ,ay,hT,hv⟩;exact⟨v,he,hk,hj,β,hβ,ay,hT,zeh hx hy h hv⟩
def ret_rwL {f:Nat} {as:List AV} {xs ys:List AV} {outs:zdy} (hl:xs.length=ys.length) (h:∀(i:Nat) (x y:AV),xs[i]? = some x->ys[i]? = some y->RW1 x y) (hr:(zb S).ret f as (.tup xs) outs):(zb S).ret f as (.tup ys) outs:=by intro g hg;have h2:=hr g hg;refine fun A w vs ι bH hA hι hJ ha=>(h2 A w vs ι bH hA hι hJ ha).mono ?_;rintro e w' ⟨v,he,hk,hj,β,hβ,ay,hT,us,hv,hlen,hp⟩;refine⟨v,he,hk,hj,β,hβ,ay,hT,us,hv,by omega,fun i y hy => ?_⟩;obtain⟨x,hx⟩:=zL hl hy;exact zhy (h i x y hx hy) (hp i x hx)
def enc_arg {sh:Sh} (ha:sh.arg=true) (x:sh.den):Av [] (enc sh x)=encA sh x∧zG (encA sh x)=false:=by
 have two:∀(sh:Sh) (x:sh.den),sh.ans1=true->sh.own1=false->A2 [] (enc sh x)=encA sh x∧zN [] (enc sh x)=true:=by
  intro sh x h1 h2;have g:(∀t,sh≠.own t)∧(∀f l,sh≠.fnc f l)∧(∀l,sh≠.tp l)∧sh≠.unit:=(by refine⟨fun t e => ?_,fun f l e => ?_,fun l e => ?_,fun e => ?_⟩<;>(subst e;first|(simp[Sh.own1] at h2;done)|(simp[Sh.ans1] at h1;done)))
  obtain⟨e1,e2,_⟩:=zeM g.1 g.2.1 g.2.2.1 g.2.2.2 x [];exact⟨by rw[A2,e1,e2],by rw[←e1];exact yh _ _⟩
 cases sh with
 | own t=>simp[Sh.arg] at ha
 | tp l=>simp[Sh.arg] at ha
 | unit=>simp[Sh.arg] at ha
 | fnc f caps =>
  simp only[Sh.arg] at ha;refine⟨?_,rfl⟩;have all:∀(l:List Sh) (x:Sh.denL l),(l.all fun s=>s.ans1 && !s.own1)=true->(wF l x).all (zN [])=true∧(wF l x).map (A2 [])=encAL l x:=by
   intro l
   induction l with
   | nil=>intro x _;exact⟨rfl,rfl⟩
   | cons sh l ih =>
    intro x h;simp only[Bg,Ai,AU] at h;cases l with
    | nil =>obtain⟨k1,k2⟩:=two sh x h.1.1 h.1.2;exact⟨by simp[wF,k2],by simp[wF,encAL,k1]⟩
    | cons bZ l =>obtain⟨k1,k2⟩:=two sh x.1 h.1.1 h.1.2;obtain⟨k3,k4⟩:=ih x.2 h.2;exact⟨by simp only[wF,Bg,k2,k3,Db],by simp only[wF,encAL,Aw,k1,k4]⟩
  obtain⟨k1,k2⟩:=all caps x ha;simp only[enc,encA];rw[zbF,if_pos k1,k2]
 | err=>exact⟨rfl,by cases x<;>rfl⟩
 | ns t=>cases x<;>exact⟨rfl,rfl⟩
 | st t =>refine⟨?_,rfl⟩;obtain⟨k1,_⟩:=two (.st t) x rfl rfl;rw[←k1];show Av [] (.ag (tvs t x))=A2 [] (.ag (tvs t x));rw[zdz,yS]
 | _=>exact⟨rfl,rfl⟩
def zeN:∀(sig:List Sh) (x:Sh.denL sig),sig.all Sh.arg=true->(wF sig x).map (Av [])=encAL sig x∧(∀y∈encAL sig x,zG y=false)∧(encAL sig x).length=sig.length:=by
 intro sig
 induction sig with
 | nil=>intro x _;exact⟨rfl,by simp[encAL],rfl⟩
 | cons sh l ih =>
  intro x h;simp only[Bg,Ai] at h;cases l with
  | nil =>obtain⟨k1,k2⟩:=enc_arg h.1 x;exact⟨by simp[wF,encAL,k1],by simp[encAL,k2],rfl⟩
  | cons bZ l =>
   obtain⟨k1,k2⟩:=enc_arg h.1 x.1;obtain⟨k3,k4,k5⟩:=ih x.2 h.2;refine⟨by simp only[wF,encAL,Aw,k1,k3],fun y hy => ?_,by simp only[encAL,Ax,k5]⟩;simp only[encAL] at hy;rcases Ar.1 hy with rfl|hy
   ·exact k2
   ·exact k4 y hy
def frT_fr (muts:List Nat):∀(i:Nat) (vs:List TV) (k:Nat),(∀y∈vs.map (Av []),zG y=false)->Av [] (look k .bot (frT i vs))=ja muts i (vs.map (Av [])) k
 | _,[],_,_=>rfl
 | i,v::vs,k,h=>by
  have h0:=h (Av [] v) (by simp);have ih:=frT_fr muts (i+1) vs k fun y hy=>h y (by simp at hy ⊢;exact .inr hy);simp only[frT,zp,Aw,ja,upd];by_cases hk:i=k
  ·subst hk;simp only[if_true];cases hx:Av [] v with
   | own z es=>rw[hx] at h0;simp[zG] at h0
   | _=>rfl
  ·rw[if_neg hk,if_neg (Ne.symm hk)];exact ih
def sB {sig:List Sh} (x:Sh.denL sig) (h:sig.all Sh.arg=true):enter [] (encAL sig x)=(gp sig x).toA:=by obtain⟨k1,k2,_⟩:=zeN sig x h;have e1:(gp sig x).toA.fr=(enter [] (encAL sig x)).fr:=(by funext k;show Av [] (look k .bot (frT 0 (wF sig x)))=ja [] 0 (encAL sig x) k;rw[←k1];exact frT_fr [] 0 _ k (by rw[k1];exact k2));have e2:(gp sig x).toA.hp=(enter [] (encAL sig x)).hp:=(by show _=zV [] 0 (encAL sig x);rw[wm [] 0 _ k2];rfl);show (⟨(enter [] (encAL sig x)).fr,(enter [] (encAL sig x)).hp⟩:ASt)=⟨(gp sig x).toA.fr,(gp sig x).toA.hp⟩;rw[e1,e2]
def fit_ok (l:List AV) (h:∀y∈l,zG y=false):∀i,qT [] i l=true:=by
 induction l with
 | nil=>intro i;rfl
 | cons a l ih =>intro i;simp only[qT,zA,h a Ak,CC,DK,Dx,beq_self_eq_true,Bv];exact ih (fun y hy=>h y (Ad _ hy)) _
def resT_ok {s:TSt} {ar:ARes} {v:TV} (h:resT s ar=some v):yA s.toA ar=some (av s.hp v)∧lv s.hp v=v:=by
 cases ar with
 | tmp t =>simp only[resT,DM] at h;subst h;exact⟨by simp only[yA];exact congrArg some (zU s (.t t)),zat s _⟩
 | cell t n =>
  simp only[resT] at h;split at h
  ·rename_i t' y off hx;obtain⟨e1,e2⟩:=yU hx;obtain⟨t1,t2⟩:=gG t' y s.hp;obtain⟨p1,p2⟩:=zae (h:=s.hp) (fun y hy=>yF (t2 y hy).1) h;rw[t1] at p1;have e3:s.toA.fr t=.ep (t'.cells y) off:=e1;exact⟨by simp only[yA,e3,cellsAt,p1],p2⟩
  ·rename_i r off hx;obtain⟨e1,e2⟩:=yU hx;split at h
   ·rename_i cs hl;obtain⟨p1,p2⟩:=zae (h:=s.hp) (fun y hy=>by obtain⟨z,hz,rfl⟩:=Al.1 hy;exact zah _ z) h;rw[A6] at p1;have e3:s.toA.fr t=.pv r off:=e1;refine⟨?_,p2⟩;simp only[yA,e3,cellsAt,qm,hl,blk];exact p1
   ·cases h
  ·rename_i r v' i off hx;obtain⟨e1,e2⟩:=yU hx;split at h
   ·rename_i dV t' xs hl;split at h
    ·rename_i y hy;obtain⟨t1,t2⟩:=gG t' y s.hp;obtain⟨p1,p2⟩:=zae (h:=s.hp) (fun y hy=>yF (t2 y hy).1) h;rw[t1] at p1;have e3:s.toA.fr t=.pe r t'.z i off:=by have:=e1;rw[zky hl] at this;exact this
     refine⟨?_,p2⟩;simp only[yA,e3,cellsAt,qm,hl,blk,if_true,As,hy,AQ];exact p1
    ·cases h
   ·cases h
  ·cases h
def refs_eq {h:THp} {x:TV} (hl:lv h x=x):(av h x).refs=rf x:=by
 have one:∀y,lv1 h y=y->(av1 h y).refs=rf1 y:=by
  intro y hy;cases y with
  | e x=>cases x<;>simp[av1,Err.av,AV.refs,aI,rf1]
  | ns t x=>cases x<;>simp[av1,AV.refs,aN,rf1]
  | lw s v=>obtain⟨t,xs,hq⟩:=gF hy;simp[av1,hq,AV.refs,rf1]
  | ls s v off len=>obtain⟨t,xs,hq⟩:=sl_ls hy;simp[av1,hq,AV.refs,rf1]
  | pe s v i off=>obtain⟨t,xs,hq⟩:=kE hy;simp[av1,hq,AV.refs,rf1]
  | pv s off=>rfl
  | _=>simp[av1,AV.refs,aI,aU,aB,aS,aN,ud,rf1]
 have lst:∀(l:List TV) (f:TV->AV) (g:TV->List Nat),(∀y∈l,(f y).refs=g y)->AV.refsL (l.map f)=l.flatMap g:=by
  intro l f g
  induction l with
  | nil=>intro _;rfl
  | cons a l ih=>intro h;simp only[Aw,AV.refsL,BC,h a Ak,ih fun y hy=>h y (Ad _ hy)]
 have two:∀y,lv2 h y=y->(av2 h y).refs=rf2 y:=by
  intro y hy;cases y with
  | ag cs=>simp only[av2,AV.refs,rf2];exact lst _ _ _ fun z hz=>one z (ziC hy z hz)
  | _=>exact one _ (by simpa only[lv2] using hy)
 cases x with
 | tp cs=>simp only[av,AV.refs,rf];exact lst _ _ _ fun z hz=>two z (lv_tp hl z hz)
 | fn f cs=>simp only[av,AV.refs,rf];exact lst _ _ _ fun z hz=>two z (lv_fn hl z hz)
 | ag cs=>exact two (.ag cs) hl
 | _=>exact two _ (by simpa only[lv] using hl)
def zgH {h:THp} (l:List TV) (hl:∀y∈l,lv h y=y):AV.refsL (l.map (av h))=l.flatMap rf:=by
 induction l with
 | nil=>rfl
 | cons a l ih=>simp only[Aw,AV.refsL,BC,refs_eq (hl a Ak),ih fun y hy=>hl y (Ad _ hy)]
def zjH {hp:Nat->Option Blk} {x a:AV} (h:qt hp x=some a) (hx:qv x=true):zG a=false∧qv a=true:=by
 have s1:∀ {x a:AV},qo hp x=some a->qv x=true->zG a=false∧qv a=true:=by
  intro x a h hx;cases x with
  | tup=>simp[qv] at hx
  | own z es=>simp[qo] at h
  | pe s z i off=>simp only[qo] at h;repeat' split at h
                  all_goals (first|(cases h;exact⟨rfl,rfl⟩)|cases h)
  | lsl s z off len=>simp only[qo] at h;repeat' split at h
                     all_goals (first|(cases h;exact⟨rfl,rfl⟩)|cases h)
  | _=>simp only[qo] at h;repeat' split at h
       all_goals (first|(cases h;exact⟨rfl,rfl⟩)|cases h)
 cases x with
 | tup=>simp[qv] at hx
 | pv s off=>simp only[qt] at h;repeat' split at h
             all_goals (first|(cases h;exact⟨rfl,rfl⟩)|cases h)
 | agg cs=>simp only[qt] at h;repeat' split at h
           all_goals (first|(cases h;exact⟨rfl,rfl⟩)|cases h)
 | _=>simp only[qt] at h;exact s1 h hx
def zmC {sh:Sh} {v:TV} {x:sh.den} (ha:sh.ans1=true) (h:dec [] sh v=some x):rf v=[]:=by
 cases sh with
 | int=>obtain rfl:=qa h;rfl
 | u8=>obtain rfl:=zkh h;rfl
 | bool=>obtain rfl:=zeR h;rfl
 | str=>obtain rfl:=wB h;rfl
 | err=>obtain rfl:=zki h;rfl
 | unit=>simp[Sh.ans1] at ha
 | sl t =>simp only[dec] at h;obtain⟨_,_,_,k4,_,k6⟩:=zaI h [];obtain⟨s1,s2⟩:=zaQ k6;rw[s1] at k4;cases v<;>first|exact s2|(simp[leaf] at k4;done)
 | ns t =>simp only[dec] at h;obtain⟨_,_,k4,_,k6⟩:=zlB h [];obtain⟨s1,s2⟩:=zaQ k6;rw[s1] at k4;cases v<;>first|exact s2|(simp[leaf] at k4;done)
 | st t =>
  simp only[dec] at h;split at h
  ·rename_i cs;have hu:=w9 h [];simp only[rf,rf2];exact BB.2 fun y hy=>(zaQ (hu.flat _ (Al.2 ⟨y,hy,rfl⟩)).2.2.2).2
  ·cases h
 | bx t =>
  simp only[dec] at h;split at h
  ·rfl
  ·simp[look] at h
  ·cases h
 | own t=>simp[dec] at h
 | fnc=>simp[Sh.ans1] at ha
 | tp=>simp[Sh.ans1] at ha
def ziW {st:ASt} {x:AV} (h:x.refs=[]):wj st x=some x:=by
 cases x with
 | lsl s z off n=>simp[AV.refs] at h
 | _=>simp only[wj,h];rfl
def zhb {own:Bool} {s:TSt} {sh:Sh} {v:TV} {x:sh.den} (ha:sh.ans1=true) (hl:lv s.hp v=v) (h:exp1 own s.hp sh v=some x) :
  ∃a,(if own=true then wj s.toA (av s.hp v) else qt s.toA.hp (av s.hp v))=some a∧RW1 a (encA sh x)∧qv a=true∧qv (encA sh x)=true:=by
 have nt:qv (encA sh x)=true:=by
  cases sh with
  | tp=>simp[Sh.ans1] at ha
  | unit=>simp[Sh.ans1] at ha
  | err=>cases x<;>rfl
  | ns=>cases x<;>rfl
  | _=>rfl
 by_cases ho:∃t,sh=.own t
 ·obtain⟨t,rfl⟩:=ho;simp only[exp1] at h;cases own with
  | false=>cases h
  | true =>
   simp only at h;split at h
   ·rename_i r v';split at h
    ·rename_i dV t' xs hb hq;obtain⟨rfl,rfl⟩:=zX h;refine⟨.own t'.z (List.map t'.cells x), ?_,.inl rfl,rfl,rfl⟩;rw[if_pos rfl,zdx hq];simp only[wj,qm,hq,blk];rw[if_pos ⟨True.intro,by simp,by simpa using hb⟩]
    ·cases h
   ·cases h;exact⟨aN,rfl,.inr (.inr ⟨rfl,t.z,rfl⟩),rfl,rfl⟩
   ·cases h
 ·have cq:∀t,sh≠.own t:=fun t e=>ho ⟨t,e⟩;have h':(match (generalizing:=false) own with|true=>dec [] sh v|false=>dec s.hp sh v)=some x:=by
   cases sh with
   | own t=>exact absurd rfl (cq t)
   | _=>exact h
  have n2:zG (encA sh x)=false:=by
   cases sh with
   | own t=>exact absurd rfl (cq t)
   | err=>cases x<;>rfl
   | ns=>cases x<;>rfl
   | _=>rfl
  -- not a tuple,not a function
  have tq:∀hp,dec hp sh v=some x->lv2 s.hp v=v:=by
   intro hp hd;cases v with
   | tp vs=>cases sh<;>first|(simp[Sh.ans1] at ha;done)|(simp[dec,dI,dU,dB,dS,dE,qr,dSl,dNs] at hd;done)
   | fn f vs=>cases sh<;>first|(simp[Sh.ans1] at ha;done)|(simp[dec,dI,dU,dB,dS,dE,qr,dSl,dNs] at hd;done)
   | _=>exact hl
  cases own with
  | false =>
   have hv:=tq _ h';obtain⟨a,k1,k2⟩:=zhj hv h';have e:av s.hp v=av2 s.hp v:=by cases v<;>first|rfl|simp[lv2,lv1] at hv
   have ez:qv (av2 s.hp v)=true:=by
    cases v with
    | tp=>simp[lv2,lv1] at hv
    | e x=>cases x<;>rfl
    | ns t x=>cases x<;>rfl
    | lw r v=>obtain⟨t,xs,hq⟩:=gF hv;simp[av2,av1,hq,qv]
    | ls r v off len=>obtain⟨t,xs,hq⟩:=sl_ls hv;simp[av2,av1,hq,qv]
    | pe r v i off=>obtain⟨t,xs,hq⟩:=kE hv;simp[av2,av1,hq,qv]
    | _=>rfl
   obtain⟨s1,s2⟩:=zjH k1 ez;exact⟨a,by rw[if_neg (by simp),e];exact k1,.inr (.inl ⟨s1,n2,k2⟩),s2,nt⟩
  | true =>
   have hv:=tq _ h';have e:av s.hp v=av2 s.hp v:=by cases v<;>first|rfl|simp[lv2,lv1] at hv
   obtain⟨k1,k2⟩:=decW2 (N:=fun _=>False) hv h' s.hp;have g:(∀f l,sh≠.fnc f l)∧(∀l,sh≠.tp l)∧sh≠.unit:=(by refine⟨fun f l e => ?_,fun l e => ?_,fun e => ?_⟩<;>(subst e;simp[Sh.ans1] at ha))
   obtain⟨_,e2,_⟩:=zeM cq g.1 g.2.1 g.2.2 x s.hp;rw[e2] at k2;have hr:(av s.hp v).refs=[]:=by rw[refs_eq hl];exact zmC ha h'
   have ez:qv (av2 s.hp v)=true∧zG (av2 s.hp v)=false:=by
    cases v with
    | tp=>simp[lv2,lv1] at hv
    | e x=>cases x<;>exact⟨rfl,rfl⟩
    | ns t x=>cases x<;>exact⟨rfl,rfl⟩
    | lw r v=>obtain⟨t,xs,hq⟩:=gF hv;simp[av2,av1,hq,qv,zG]
    | ls r v off len=>obtain⟨t,xs,hq⟩:=sl_ls hv;simp[av2,av1,hq,qv,zG]
    | pe r v i off=>obtain⟨t,xs,hq⟩:=kE hv;simp[av2,av1,hq,qv,zG]
    | _=>exact⟨rfl,rfl⟩
   exact⟨av2 s.hp v,by rw[if_pos rfl,ziW hr,e],.inr (.inl ⟨ez.2,n2,k2⟩),ez.1,nt⟩
def expL_ok {own:Bool} {s:TSt}:∀(l:List Sh) (vs:List TV) (x:Sh.denL l),l.all Sh.ans1=true->(∀v∈vs,lv s.hp v=v)->expL own s.hp l vs=some x ->
  ∃as,zd (fun a=>if own=true then wj s.toA a else qt s.toA.hp a) (vs.map (av s.hp))=some as∧as.length=(encAL l x).length∧as.length=vs.length∧(∀(i:Nat) (a b:AV),as[i]? = some a->(encAL l x)[i]? = some b->RW1 a b):=by
 intro l
 induction l with
 | nil =>
  intro vs x _ _ h;cases vs with
  | nil=>exact⟨[],rfl,rfl,rfl,by simp⟩
  | cons=>simp[expL] at h
 | cons sh l ih =>
  intro vs x ha hl h;simp only[Bg,Ai] at ha;cases l with
  | nil =>
   match vs with
   | []=>simp[expL] at h
   | [v] =>
    simp only[expL] at h;obtain⟨a,k1,k2,_⟩:=zhb ha.1 (hl v (by simp)) h;refine⟨[a],by simp only[Aw,Bn,zd];rw[k1],rfl,rfl,fun i a' b eS hb => ?_⟩;cases i with
    | zero=>simp[encAL] at eS hb;subst eS;subst hb;exact k2
    | succ i=>simp at eS
   | _::_::_=>simp[expL] at h
  | cons bZ l =>
   cases vs with
   | nil=>simp[expL] at h
   | cons v vs =>
    simp only[expL] at h;split at h
    ·rename_i a b h1 h2;cases h;obtain⟨a',k1,k2,_⟩:=zhb ha.1 (hl v (by simp)) h1;obtain⟨as,m1,m2,m3,m4⟩:=ih vs b ha.2 (fun v hv=>hl v (Ad _ hv)) h2;refine⟨a'::as, ?_,by simp only[encAL,Ax,m2],by simp[m3],fun i c d hc hd => ?_⟩
     ·simp only[Aw,zd];rw[k1];rw[m1]
     ·simp only[encAL] at hd;cases i with
      | zero=>simp at hc hd;subst hc;subst hd;exact k2
      | succ i=>simp only[A4] at hc hd;exact m4 i c d hc hd
    ·cases h
noncomputable def TFunc.runFrom (C:List CSpec) (f:TFunc) (s0:TSt) (rs:Sh):Option rs.den :=
 Ab.run C f.body s0 fun e s=>match e with
  | .exit _=>none
  | _=>match zd (resT s) f.res with|some vs=>(match !f.own || qp (vs.flatMap rf) with|true=>expT f.own s.hp rs vs|false=>none)|none=>none
def ot (hC:zK S C) {f:TFunc} (hm:f.muts=[]) {s0:TSt} {rs:Sh} {y:rs.den} {Q:AV->Prop} (hQ:∀e s' r,Ex (zb S) f.body.er s0.toA e s'->(e=.norm∨e=.ret)->qE f.own f.muts f.res s'=some (r,[])->Q r) (w1:∀ {x y:AV},qv x=true->qv y=true->RW1 x y->Q x->Q y)
  (wL:∀ {xs ys:List AV},xs.length=ys.length->(∀(i:Nat) (x y:AV),xs[i]? = some x->ys[i]? = some y->RW1 x y)->Q (.tup xs)->Q (.tup ys)) (h3:rs.ans=true)
  (h:f.runFrom C s0 rs=some y):Q (encA rs y):=by
 unfold TFunc.runFrom at h;obtain⟨e,s,hk,hex,_⟩:=zed (S:=S) hC f.body _ _ _ h;have he:e=.norm∨e=.ret:=by
  cases e with
  | norm=>exact .inl rfl
  | ret=>exact .inr rfl
  | exit i=>cases hk
 have aA:(match zd (resT s) f.res with|some vs=>(match !f.own || qp (vs.flatMap rf) with|true=>expT f.own s.hp rs vs|false=>none)|none=>none)=some y:=(by rcases he with rfl|rfl<;>exact hk)
 split at aA
 ·rename_i vs cQ;split at aA
  ·rename_i hnd;have aD:zd (yA s.toA) f.res=some (vs.map (av s.hp))∧∀v∈vs,lv s.hp v=v:=zaT (fun a _ v hv=>resT_ok hv) cQ
   have body:∀r,(if f.own=true then (if qp (AV.refsL (vs.map (av s.hp)))=true then (match zd (wj s.toA) (vs.map (av s.hp)) with|some ys=>some (qz ys)|none=>none) else none) else (match zd (qt s.toA.hp) (vs.map (av s.hp)) with|some ys=>some (qz ys)|none=>none))=some r ->
     Q r:=by
    intro r hr;refine hQ e s.toA r hex he ?_
    ·show qE f.own f.muts f.res s.toA=some (r,[]);rw[hm];unfold qE;rw[aD.1];simp only;cases ho:f.own with
     | true =>
      rw[ho] at hr;simp only[if_true,and_true] at hr ⊢;split at hr
      ·rename_i hn;rw[if_pos hn];split at hr
       ·rename_i ys hy;cases hr;rw[hy]
       ·cases hr
      ·cases hr
     | false =>
      rw[ho] at hr;simp only[Au,if_false,if_true] at hr ⊢;split at hr
      ·rename_i ys hy;cases hr;rw[hy]
      ·cases hr
   have exp:∀as,zd (fun a=>if f.own=true then wj s.toA a else qt s.toA.hp a) (vs.map (av s.hp))=some as->Q (qz as):=by
    intro as ha;refine body _ ?_;cases ho:f.own with
    | true =>
     rw[ho] at ha hnd;simp only[if_true] at ha ⊢;have hn:qp (AV.refsL (vs.map (av s.hp)))=true:=by rw[zgH vs aD.2];simpa using hnd
     rw[if_pos hn,ha]
    | false =>rw[ho] at ha;simp only[Au,if_false] at ha ⊢;rw[ha]
   -- by the answer's shape
   have single:rs.ans1=true->(∃v,vs=[v]∧exp1 f.own s.hp rs v=some y)->Q (encA rs y):=(by rintro ha ⟨v,rfl,hv⟩;obtain⟨a,k1,k2,k3,k4⟩:=zhb ha (aD.2 v (by simp)) hv;have:=exp [a] (by simp only[Aw,Bn,zd];rw[k1]);exact w1 k3 k4 k2 this);cases rs with
   | tp l =>
    simp only[expT] at aA;split at aA
    ·rename_i v1 v2 gq;obtain⟨as,m1,m2,m3,m4⟩:=expL_ok l _ y h3 aD.2 aA;have:=exp as m1;have e2:qz as=.tup as:=by
      match as,m3 with
      | _::_::_,_=>rfl
      | [_],h=>simp at h
      | [],h=>simp at h
     rw[e2] at this;exact wL m2 m4 this
    ·cases aA
   | unit =>
    simp only[expT] at aA;split at aA
    ·exact exp [] rfl
    ·cases aA
   | fnc f l=>simp[Sh.ans] at h3
   | _ =>
    simp only[expT] at aA;split at aA
    ·exact single rfl ⟨_,rfl,aA⟩
    ·cases aA
  ·cases aA
 ·cases aA
def zl1 {G:Nat->Option AFunc} (hM:Ok G (zb S)) (hC:zK S C) {id:Nat} {f:TFunc} (hf:G id=some f.er) (hm:f.muts=[]) {sig:List Sh} {rs:Sh} (h1:sig.all Sh.arg=true) (h2:sig.length=f.np) (h3:rs.ans=true) {x:Sh.denL sig} {y:rs.den}
  (h:f.run C sig rs x=some y):(zb S).ret id (encAL sig x) (encA rs y) []:=by
 obtain⟨a1,a2,a3⟩:=zeN sig x h1;refine ot hC hm (s0:=gp sig x) (Q:=fun r=>(zb S).ret id (encAL sig x) r []) (fun e s' r hex he hr=>hM id f.er _ r [] hf ⟨by rw[a3,h2];rfl,by show qT f.muts 0 _=true;rw[hm];exact fit_ok _ a2 0,e,s', ?_,he,hr⟩) (fun a b c d=>zjR a b c d) (fun a b d=>ret_rwL a b d) h3 h;show Ex _ f.body.er (enter f.muts (encAL sig x)) e s';rw[hm,sB x h1];exact hex
end
end
section
open Go Go.RowKit
section
variable {S:Seat} {C:List CSpec}
def zgi {hd:Bool} {sh:Sh} (h:sh.argM hd=true):(hd=true∧∃t,sh=.own t)∨(hd=false∧(∀t,sh≠.own t)∧((∃f l,sh=.fnc f l∧(l.all fun s=>s.ans1 && !s.own1)=true)∨((∀f l,sh≠.fnc f l)∧(∀l,sh≠.tp l)∧sh≠.unit))):=by
 cases sh with
 | own t=>exact .inl ⟨by simpa[Sh.argM] using h,t,rfl⟩
 | tp l=>simp[Sh.argM] at h
 | unit=>simp[Sh.argM] at h
 | fnc f l =>simp only[Sh.argM,Ai,AU] at h;exact .inr ⟨h.1,by simp,.inl ⟨f,l,rfl,h.2⟩⟩
 | _=>exact .inr ⟨by simpa[Sh.argM] using h,by simp,.inr ⟨by simp,by simp,by simp⟩⟩
def enc_fnc {f:Nat} {caps:List Sh} (ha:(caps.all fun s=>s.ans1 && !s.own1)=true) (x:(Sh.fnc f caps).den) (H:THp):Av H (enc (.fnc f caps) x)=encA (.fnc f caps) x:=by
 have two:∀(sh:Sh) (x:sh.den),sh.ans1=true->sh.own1=false->A2 H (enc sh x)=encA sh x∧zN H (enc sh x)=true:=by
  intro sh x h1 h2;have g:(∀t,sh≠.own t)∧(∀f l,sh≠.fnc f l)∧(∀l,sh≠.tp l)∧sh≠.unit:=(by refine⟨fun t e => ?_,fun f l e => ?_,fun l e => ?_,fun e => ?_⟩<;>(subst e;first|(simp[Sh.own1] at h2;done)|(simp[Sh.ans1] at h1;done)))
  obtain⟨e1,e2,_⟩:=zeM g.1 g.2.1 g.2.2.1 g.2.2.2 x H;exact⟨by rw[A2,e1,e2],by rw[←e1];exact yh _ _⟩
 have all:∀(l:List Sh) (x:Sh.denL l),(l.all fun s=>s.ans1 && !s.own1)=true->(wF l x).all (zN H)=true∧(wF l x).map (A2 H)=encAL l x:=by
  intro l
  induction l with
  | nil=>intro x _;exact⟨rfl,rfl⟩
  | cons sh l ih =>
   intro x h;simp only[Bg,Ai,AU] at h;cases l with
   | nil =>obtain⟨k1,k2⟩:=two sh x h.1.1 h.1.2;exact⟨by simp[wF,k2],by simp[wF,encAL,k1]⟩
   | cons bZ l =>obtain⟨k1,k2⟩:=two sh x.1 h.1.1 h.1.2;obtain⟨k3,k4⟩:=ih x.2 h.2;exact⟨by simp only[wF,Bg,k2,k3,Db],by simp only[wF,encAL,Aw,k1,k4]⟩
 obtain⟨k1,k2⟩:=all caps x ha;simp only[enc,encA];rw[zbF,if_pos k1,k2]
def zcK {sh:Sh} (h:∀t,sh≠.own t) (x:sh.den):zG (encA sh x)=false:=by
 cases sh with
 | own t=>exact absurd rfl (h t)
 | err=>cases x<;>rfl
 | ns t=>cases x<;>rfl
 | _=>rfl
def Av_enc {sh:Sh} (h1:∀t,sh≠.own t) (h2:∀f l,sh≠.fnc f l) (h3:∀l,sh≠.tp l) (h4:sh≠.unit) (x:sh.den) (h:THp):Av h (enc sh x)=encA sh x:=by
 obtain⟨e1,e2,_⟩:=zeM h1 h2 h3 h4 x h;rw[j7 (zev e1),←e2];cases he:enc sh x with
 | tp=>rw[he] at e1;simp[lv2,lv1] at e1
 | fn=>rw[he] at e1;simp[lv2,lv1] at e1
 | _=>rfl
def hp_one {muts:List Nat} {i:Nat} {sh:Sh} (x:sh.den) (rest:THp) (args:List AV) (r:Nat) (h:THp) (ih:blk h (look r .gone rest)=zV muts (i+1) args r) (kP:look r .gone rest=.gone∨∃t xs,look r .gone rest=.row 0 t xs) :
  blk h (look r .gone (hpM1 muts i sh x++rest))=zV muts i (encA sh x::args) r∧(look r .gone (hpM1 muts i sh x++rest)=.gone∨∃t xs,look r .gone (hpM1 muts i sh x++rest)=.row 0 t xs):=by
 by_cases ho:∃t,sh=.own t
 ·obtain⟨t,rfl⟩:=ho;simp only[hpM1,AK,AJ,zp,encA,zV,upd];by_cases e:qb muts i=r
  ·subst e;simp only[if_true,blk];exact⟨trivial,.inr ⟨_,_,rfl⟩⟩
  ·rw[if_neg e,if_neg (Ne.symm e)];exact⟨ih,kP⟩
 ·have e:hpM1 muts i sh x=[]:=by
   cases sh with
   | own t=>exact absurd ⟨t,rfl⟩ ho
   | _=>rfl
  rw[e,AJ];refine⟨?_,kP⟩;rw[ih];have hn:=zcK (fun t e=>ho ⟨t,e⟩) x;cases hx:encA sh x with
  | own z es=>rw[hx] at hn;simp[zG] at hn
  | _=>rfl
def hpTM_ok (muts:List Nat) (h:THp) (r:Nat):∀(i:Nat) (l:List Sh) (x:Sh.denL l),blk h (look r .gone (hpTM muts i l x))=zV muts i (encAL l x) r∧(look r .gone (hpTM muts i l x)=.gone∨∃t xs,look r .gone (hpTM muts i l x)=.row 0 t xs):=by
 intro i l
 induction l generalizing i with
 | nil=>intro x;exact⟨rfl,.inl rfl⟩
 | cons sh l ih =>
  intro x;cases l with
  | nil =>have:=hp_one (muts:=muts) (i:=i) x [] [] r h rfl (.inl rfl);rw[Bl] at this;exact this
  | cons bZ l=>exact hp_one x.1 _ _ r h (ih (i+1) x.2).1 (ih (i+1) x.2).2
def fr_one {muts:List Nat} {i:Nat} {sh:Sh} (x:sh.den) {H:THp} (ha:sh.argM (zA muts i)=true) (hH:∀z es,encA sh x=.own z es->∃(t:Ty) (ys:List t.den),look (qb muts i) .gone H=.row 0 t ys∧t.z=z∧ys.length=es.length) :
  Av H (encM1 muts i sh x)=(match encA sh x with | .own z es=>.lsl (qb muts i) z 0 es.length|x=>x):=by
 rcases zgi ha with⟨_,t,rfl⟩|⟨_,h1,⟨f,l,rfl,hl⟩|⟨h2,h3,h4⟩⟩
 ·obtain⟨t',ys,k1,k2,k3⟩:=hH _ _ rfl;have e3:lv H (.lw (qb muts i) 0)=.lw (qb muts i) 0:=by simp only[lv,lv2,lv1,k1,AZ]
  show Av H (.lw (qb muts i) 0)=_;rw[j7 e3,zdx k1,k2,k3];rfl
 ·exact enc_fnc hl x H
 ·have e:encM1 muts i sh x=enc sh x:=by
   cases sh with
   | own t=>exact absurd rfl (h1 t)
   | _=>rfl
  rw[e,Av_enc h1 h2 h3 h4];have hn:=zcK h1 x;cases hx:encA sh x with
  | own z es=>rw[hx] at hn;simp[zG] at hn
  | _=>rfl
def frTM_ok {muts:List Nat} {H:THp} (k:Nat):∀(i:Nat) (l:List Sh) (x:Sh.denL l),zjj muts i l=true->(∀j z es,(encAL l x)[j]? = some (.own z es)->∃(t:Ty) (ys:List t.den),look (qb muts (i+j)) .gone H=.row 0 t ys∧t.z=z∧ys.length=es.length) ->
  Av H (look k .bot (frTM muts i l x))=ja muts i (encAL l x) k:=by
 intro i l
 induction l generalizing i with
 | nil=>intro x _ _;rfl
 | cons sh l ih =>
  intro x ha hH;simp only[zjj,Ai] at ha;cases l with
  | nil =>
   simp only[frTM,zp,encAL,ja,upd];by_cases e:i=k
   ·subst e;simp only[if_true];exact fr_one x ha.1 fun z es he=>by simpa using hH 0 z es (by simp[encAL,he])
   ·rw[if_neg e,if_neg (Ne.symm e)];rfl
  | cons bZ l =>
   simp only[frTM,zp,encAL,ja,upd];by_cases e:i=k
   ·subst e;simp only[if_true];exact fr_one x.1 ha.1 fun z es he=>by simpa using hH 0 z es (by simp[encAL,he])
   ·rw[if_neg e,if_neg (Ne.symm e)];refine ih (i+1) x.2 ha.2 fun j z es hj => ?_;have:=hH (j+1) z es (by simp only[encAL,A4];exact hj)
    rwa [show i+(j+1)=i+1+j by omega] at this
def sA:∀(l:List Sh) (x:Sh.denL l),(encAL l x).length=l.length:=by
 intro l
 induction l with
 | nil=>intro x;rfl
 | cons sh l ih =>
  intro x;cases l with
  | nil=>rfl
  | cons bZ l=>simp only[encAL,Ax,ih x.2]
def fitM_ok {muts:List Nat}:∀(i:Nat) (l:List Sh) (x:Sh.denL l),zjj muts i l=true->qT muts i (encAL l x)=true:=by
 have one:∀ {i:Nat} {sh:Sh} (x:sh.den),sh.argM (zA muts i)=true->(zG (encA sh x) == zA muts i)=true:=by
  intro i sh x h;rcases zgi h with⟨e,t,rfl⟩|⟨e,h1,_⟩
  ·rw[e];rfl
  ·rw[e,zcK h1];rfl
 intro i l
 induction l generalizing i with
 | nil=>intro x _;rfl
 | cons sh l ih =>
  intro x h;simp only[zjj,Ai] at h;cases l with
  | nil=>simp only[encAL,qT,CJ];exact one x h.1
  | cons bZ l=>simp only[encAL,qT,one x.1 h.1,Bv];exact ih (i+1) x.2 h.2
def zke {muts:List Nat} {sig:List Sh} (x:Sh.denL sig) (h:zjj muts 0 sig=true) (hl:sig.length<=1000):enter muts (encAL sig x)=(zcI muts sig x).toA:=by
 have hlen:=sA sig x;have bu:∀j z es,(encAL sig x)[j]? = some (.own z es)->∃(t:Ty) (ys:List t.den),look (qb muts (0+j)) .gone (hpTM muts 0 sig x)=.row 0 t ys∧t.z=z∧ys.length=es.length:=by
  intro j z es hj;rw[AY];have aj:∀(j:Nat) (y:AV),(encAL sig x)[j]? = some y->j<1000:=fun j y h=>by have:=(Ac.1 h).1;omega
  have h0:=mY muts 0 (encAL sig x) j z es hj;rw[AY] at h0;obtain⟨k1,k2⟩:=hpTM_ok muts [] (qb muts j) 0 sig x;rcases jC muts (fun _=>none) 0 (encAL sig x) (qb muts j) with⟨h1,_⟩|⟨j',z',bj,h1,h2,h3,_⟩
  ·exact absurd h1 h0
  ·rw[AY] at h2;obtain rfl:=zcm (aj j _ hj) (aj j' _ h1) h2;rw[hj] at h1;cases h1;rw[h3] at k1;rcases k2 with k2|⟨t,ys,k2⟩
   ·rw[k2] at k1;cases k1
   ·rw[k2] at k1;simp only[blk,DM,Blk.arr.injEq] at k1;exact⟨t,ys,k2,k1.1,by rw[←k1.2,Aq]⟩
 have e1:(zcI muts sig x).toA.fr=(enter muts (encAL sig x)).fr:=(by funext k;exact frTM_ok k 0 sig x h bu);have e2:(zcI muts sig x).toA.hp=(enter muts (encAL sig x)).hp:=(by funext r;exact (hpTM_ok muts _ r 0 sig x).1);show (⟨(enter muts (encAL sig x)).fr,(enter muts (encAL sig x)).hp⟩:ASt)=⟨(zcI muts sig x).toA.fr,(zcI muts sig x).toA.hp⟩;rw[e1,e2]
def zjA {G:Nat->Option AFunc} (hM:Ok G (zb S)) (hC:zK S C) {id:Nat} {f:TFunc} (hf:G id=some f.er) (hm:f.muts.isEmpty=false) (ho:f.own=false) {sig:List Sh} {rs:Sh} (h1:zjj f.muts 0 sig=true) (h2:sig.length=f.np) (h4:Nat.ble f.np 1000=true) (h3:rs.ans=true) {x:Sh.denL sig} {y:rs.den}
  (h:f.runM C sig rs x=some y):retK S id (encAL sig x) (jx f.muts) rs y:=by
 rw[Nat.ble_eq] at h4;unfold TFunc.runM at h;obtain⟨e,s,hk,hex,_⟩:=zed (S:=S) hC f.body _ _ _ h;have he:e=.norm∨e=.ret:=by
  cases e with
  | norm=>exact .inl rfl
  | ret=>exact .inr rfl
  | exit i=>cases hk
 have aA:(match zd (resT s) f.res with
   | some vs=>(match qp (vs.flatMap rf),jx f.muts with
    | true,[]=>expT true s.hp rs vs
    | true,[i]=>keptT s i vs rs
    | _,_=>none)
   | none=>none)=some y:=by
  rcases he with rfl|rfl<;>exact hk
 have tE:f.muts≠[]:=fun e=>by rw[e] at hm;cases hm
 split at aA
 ·rename_i vs cQ;have aD:zd (yA s.toA) f.res=some (vs.map (av s.hp))∧∀v∈vs,lv s.hp v=v:=zaT (fun a _ v hv=>resT_ok hv) cQ;have body:∀r outs,qE false f.muts f.res s.toA=some (r,outs)->(zb S).ret id (encAL sig x) r outs:=by
   intro r outs hr;refine hM id f.er _ r outs hf ⟨by rw[sA,h2];rfl,fitM_ok 0 sig x h1,e,s.toA, ?_,he, ?_⟩
   ·show Ex _ f.body.er (enter f.muts (encAL sig x)) e s.toA;rw[zke x h1 (by omega)];exact hex
   ·show qE f.own f.muts f.res s.toA=some (r,outs);rw[ho];exact hr
  split at aA
  ·rename_i hn bE;rw[bE];have exp:∀as,zd (wj s.toA) (vs.map (av s.hp))=some as->(zb S).ret id (encAL sig x) (qz as) []:=(by intro as ha;refine body _ _ ?_;unfold qE;rw[aD.1];simp only[Au,if_false,if_neg tE];rw[if_pos (by rw[zgH vs aD.2];exact hn),ha];simp only[zla,bE,zd]);have single:rs.ans1=true->(∃v,vs=[v]∧exp1 true s.hp rs v=some y)->(zb S).ret id (encAL sig x) (encA rs y) []:=by
    rintro ha ⟨v,rfl,hv⟩;obtain⟨a,k1,k2,k3,k4⟩:=zhb ha (aD.2 v (by simp)) hv;have:=exp [a] (by
     rw[if_pos rfl] at k1;simp only[Aw,Bn,zd];rw[k1])
    exact zjR k3 k4 k2 this
   show (zb S).ret id (encAL sig x) (encA rs y) [];cases rs with
   | tp l =>
    simp only[expT] at aA;split at aA
    ·rename_i v1 v2 gq;obtain⟨as,m1,m2,m3,m4⟩:=expL_ok l _ y h3 aD.2 aA;have:=exp as (by simpa using m1);have e2:qz as=.tup as:=by
      match as,m3 with
      | _::_::_,_=>rfl
      | [_],h=>simp at h
      | [],h=>simp at h
     rw[e2] at this;exact ret_rwL m2 m4 this
    ·cases aA
   | unit =>
    simp only[expT] at aA;split at aA
    ·exact exp [] rfl
    ·cases aA
   | fnc f l=>simp[Sh.ans] at h3
   | _ =>
    simp only[expT] at aA;split at aA
    ·exact single rfl ⟨_,rfl,aA⟩
    ·cases aA
  ·rename_i i hn bE;rw[bE];cases rs with
   | own t =>
    simp only[keptT] at aA;split at aA
    ·rename_i v t' ys hq;obtain⟨rfl,rfl⟩:=zX aA;refine body (.tup []) _ ?_;unfold qE;rw[aD.1];simp only[Au,if_false,if_neg tE];rw[if_pos (by rw[zgH _ aD.2];exact hn)];simp only[Bn,zd,zla,bE,qm,hq,blk];rfl
    ·cases aA
   | _=>trivial
  ·cases aA
 ·cases aA
end
end
section
open Go Go.RowKit
section
variable {S:Seat}
def Ok1 (S:Seat) (id:Nat) (f:TFunc):Prop:=Ok (fun i=>if i=id then some f.er else none) (zb S)
def Rt (S:Seat) (c:CSpec):Prop:=∀x y,c.fn x=some y->retK S c.f (encAL c.sig x) (jx c.muts) c.res y
def zK.nil:zK S []:=fun c hc=>by cases hc
def zK.cons {c:CSpec} {r:List CSpec} (h:Rt S c) (hr:zK S r):zK S (c::r):=fun c' hc=>by
 rcases Ar.1 hc with rfl|hc
 ·exact h
 ·exact hr c' hc
def RtF (S:Seat):List CSpec->Prop->Prop
 | [],T=>T
 | k::l,T=>Rt S k->RtF S l T
def rtf:∀ {C:List CSpec} {T:Prop},(zK S C->T)->RtF S C T
 | [],_,h=>h zK.nil
 | _::_,_,h=>fun hk=>rtf fun hl=>h (zK.cons hk hl)
def Ok1.sound {id:Nat} {f:TFunc} {C:List CSpec} {sig:List Sh} {rs:Sh} (h:Ok1 S id f) (hC:zK S C) (h1:sig.all Sh.arg=true) (h2:sig.length=f.np) (h3:rs.ans=true) {x:Sh.denL sig} {y:rs.den} (hr:f.run C sig rs x=some y)
  (hm:f.muts=[]):(zb S).ret id (encAL sig x) (encA rs y) []:=zl1 h hC (if_pos rfl) hm h1 h2 h3 hr
def okr {f:TFunc} {C:List CSpec} {k:CSpec} (h:Ok1 S k.f f) (hb:(k.muts.isEmpty && k.sig.all Sh.arg && Nat.beq k.sig.length f.np && k.res.ans && f.muts.isEmpty)=true:=by rfl) (hr:∀x,f.run C k.sig k.res x=k.fn x:=by intro x;kernel_rfl):RtF S C (Rt S k):=rtf fun hC x y hy=>by
 simp only[Ai,Cj] at hb;obtain⟨⟨⟨⟨h0,h1⟩,h2⟩,h3⟩,h4⟩:=hb;rw[h0];exact Ok1.sound h hC h1 (Bt h2) h3 ((hr x).trans hy) h4
def Ok1.soundM {id:Nat} {f:TFunc} {C:List CSpec} {sig:List Sh} {rs:Sh} (h:Ok1 S id f) (hC:zK S C) (hm:f.muts.isEmpty=false) (ho:f.own=false) (h1:zjj f.muts 0 sig=true) (h2:sig.length=f.np) (h4:Nat.ble f.np 1000=true) (h3:rs.ans=true) {x:Sh.denL sig} {y:rs.den} (hr:f.runM C sig rs x=some y) :
  retK S id (encAL sig x) (jx f.muts) rs y:=zjA h hC (if_pos rfl) hm ho h1 h2 h4 h3 hr
def qq:∀(l:List (Nat×Nat)) (k v:Nat),ql k l=some v->(k,v)∈l
 | [],_,_,h=>by cases h
 | (a,b)::r,k,v,h=>by
  simp only[ql] at h;split at h
  ·rename_i e;subst e;cases h;exact Ak
  ·exact Ad _ (qq r k v h)
def only (g id:Nat) (l:List (Nat×Nat)):Bool:=l.all fun p=>match Nat.beq p.2 id with|true=>Nat.beq p.1 g|false=>true
def zk (hS:zZ S) {g id:Nat} {fn:Func} {f:TFunc} (h1:S.P.funcs[g]? = some fn) (h2:zbw S id fn=some f.er:=by kernel_rfl) (h3:only g id S.fns=true:=by kernel_rfl):Ok1 S id f:=by
 refine ok_of hS (fun g' id' h f' hf => ?_) fun _ _ _=>.inr (zly hS);split at hf
 ·rename_i e;subst e;cases hf;have:=Af.1 h3 _ (qq _ _ _ h);simp only[AZ] at this;obtain rfl:=Bt this;exact⟨fn,h1,h2⟩
 ·cases hf
def callB (P : Program) (l : List (Nat × Nat)) : Bool := l.all fun p => match P.funcs[p.1]? with | some fn => fn.body.isSome && !(fn.name == "runtime.NumGoroutine") | none => false
def zkr (h:callB S.P S.fns=true):zZ S:=by
 intro g id hg;have:=Af.1 h _ (qq _ _ _ hg);simp only at this;split at this
 ·rename_i fn hf;simp only[Ai,AU] at this;exact⟨fn,hf,this.1,this.2⟩
 ·cases this
end
end
end Ab
