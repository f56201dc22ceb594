import Derived.Test.YtcknjppeompbkaaGreatDoorB1
import Derived.KernelRfl
open List (all_nil map_set)
set_option linter.all false
namespace Ab
section
open Go Go.RowKit
section
variable {S:Seat} {q:Bool} {α:Type} {C:List CSpec} {ty:Ty} {d:Nat} {s:TSt} {k:TV->THp->Option α} {r:α}
def Av_i (h:THp) (n:Int):Av h (.i n)=.v (.int .i64 n):=rfl
def Av_u (h:THp) (n:Int):Av h (.u n)=.v (.int .u8 n):=rfl
def Av_b (h:THp) (n:Bool):Av h (.b n)=.v (.bool n):=rfl
def Av_sl (h:THp) (t:Ty) (xs:List t.den):Av h (.sl t xs)=.sl t.z (xs.map t.cells):=rfl
def Av_ep (h:THp) (t:Ty) (x:t.den) (off:Nat):Av h (.ep t x off)=.ep (t.cells x) off:=rfl
def top_chk {x:AOpd} (h:top C q ty (.chk x) d s k=some r):∃ v hs,k v hs=some r∧zV S q (.chk x) d s v hs:=by
 simp only[top] at h;split at h
 ·rename_i r' off hx;obtain ⟨e1,e2⟩:=ye hx;exact ⟨_,_,h,.val rfl (by simp only[aop,e1,av_pv,jA e2])⟩
 ·rename_i r' v i off hx;obtain ⟨e1,e2⟩:=ye hx;obtain ⟨t,xs,hl⟩:=ziI (jl rfl e2);exact ⟨_,_,h,.val rfl (by simp only[aop,e1,zhD hl,jA e2])⟩
 ·rename_i t y off hx;obtain ⟨e1,e2⟩:=ye hx;exact ⟨_,_,h,.val rfl (by simp only[aop,e1,av_ep,jA e2])⟩
 ·rename_i f caps hx;obtain ⟨e1,e2⟩:=ye hx;exact ⟨_,_,h,.val rfl (by rw[jA e2];simp only[aop,e1];rfl)⟩
 ·cases h
def binT_ok {kd:Sc} {op:BinOp} {x y:TV} (h:binT kd op x y (fun v=>k v [])=some r) (hp:THp):∃ v a b c,k v []=some r∧av hp x=.v a∧av hp y=.v b∧zfm kd op a b=some c∧Av hp v=.v c:=by
 unfold binT at h;split at h
 ·split at h
  ·exact ⟨_,_,_,_,h,rfl,rfl,rfl,rfl⟩
  ·exact ⟨_,_,_,_,h,rfl,rfl,rfl,rfl⟩
  ·exact ⟨_,_,_,_,h,rfl,rfl,rfl,rfl⟩
  ·obtain ⟨h1,h⟩:=qg h;exact ⟨_,_,_,_,h,rfl,rfl,by simp only[zfm,if_true];rw[if_neg (of_decide_eq_true h1)];(try rfl),rfl⟩
  ·obtain ⟨h1,h⟩:=qg h;exact ⟨_,_,_,_,h,rfl,rfl,by simp only[zfm,if_true];rw[if_neg (of_decide_eq_true h1)];(try rfl),rfl⟩
  all_goals first | exact ⟨_,_,_,_,h,rfl,rfl,rfl,rfl⟩ | cases h
 ·split at h
  all_goals first | exact ⟨_,_,_,_,h,rfl,rfl,rfl,rfl⟩ | cases h
 ·split at h
  ·split at h
   ·rename_i hb;exact ⟨_,_,_,_,h,rfl,rfl,by simp only[zfm,if_true];rw[if_pos (of_decide_eq_true hb)],rfl⟩
   ·cases h
  ·cases h
 ·split at h
  ·obtain ⟨h1,h⟩:=qg h;exact ⟨_,_,_,_,h,rfl,rfl,by simp only[zfm];rw[if_pos (of_decide_eq_true h1)],rfl⟩
  all_goals first | exact ⟨_,_,_,_,h,rfl,rfl,rfl,rfl⟩ | cases h
 ·split at h
  all_goals first | exact ⟨_,_,_,_,h,rfl,rfl,rfl,rfl⟩ | cases h
 ·cases h
def top_bin {kd:Sc} {op:BinOp} {x y:AOpd} (h:top C q ty (.bin kd op x y) d s k=some r):∃ v hs,k v hs=some r∧zV S q (.bin kd op x y) d s v hs:=by simp only[top] at h;obtain ⟨v,a,b,c,h1,h2,h3,h4,h5⟩:=binT_ok h s.hp;exact ⟨_,_,h1,.val rfl (by simp only[aop,zE,h2,h3,h4,h5])⟩
def eqT_ok {h:THp} {cs ds:List TV}:∀ {sh:List (Nat×Sc)} {b:Bool},eqT cs ds sh=some b->zhi (cs.map (av1 h)) (ds.map (av1 h)) sh=some b
 | [],b,he=>he
 | (off,sc) :: l,b,he=>by
  simp only[eqT] at he;split at he
  ·rename_i x y hx hy;split at he
   ·rename_i a b' ha hb;cases he;have h1:=eqT_ok (h:=h) hb;simp only[zhi,Aw,hx,hy,AE,h1];have:zjm sc (av1 h x) (av1 h y)=some a:=by
     unfold eq1 at ha;split at ha
     ·cases ha;simp[av1,zjm,aI]
     ·cases ha;simp[av1,zjm,aB]
     ·cases ha;simp[av1,zjm,aS]
     ·cases ha
    rw[this]
   ·cases he
  ·cases he
def top_eqa {neg:Bool} {sh:List (Nat×Sc)} {x y:AOpd} (h:top C q ty (.eqa neg sh x y) d s k=some r):∃ v hs,k v hs=some r∧zV S q (.eqa neg sh x y) d s v hs:=by
 simp only[top] at h;split at h
 ·rename_i cs ds hx hy;split at h
  ·rename_i b hb;have h1:=eqT_ok (h:=s.hp) hb;refine ⟨_,_,h,.val rfl ?_⟩;simp only[aop,zE,hx,hy,av,av2,h1];cases neg<;>rfl
  ·cases h
 ·cases h
def top_eqn {sl neg:Bool} {x:AOpd} (h:top C q ty (.eqn sl neg x) d s k=some r):∃ v hs,k v hs=some r∧zV S q (.eqn sl neg x) d s v hs:=by
 simp only[top] at h;split at h
 ·rename_i hx;exact ⟨_,_,h,.val rfl (by simp only[aop,zE,hx,if_true,av_nl];rfl)⟩
 ·rename_i t xs hx;obtain ⟨h1,h⟩:=qg h;refine ⟨_,_,h,.val rfl ?_⟩;simp only[aop,zE,hx,if_true,av_sl];cases xs with
  | nil=>simp at h1
  | cons y ys=>simp only[An];rfl
 ·rename_i t y hx;obtain ⟨h1,h⟩:=qg h;refine ⟨_,_,h,.val rfl ?_⟩;simp only[aop,zE,hx,if_true];cases y with
  | none=>cases neg<;>rfl
  | some ys =>
   cases ys with
   | nil=>simp at h1
   | cons z zs=>cases neg<;>rfl
 ·rename_i y hx;refine ⟨_,_,h,.val rfl ?_⟩;simp only[aop,zE,hx,Am,if_false];cases y<;>cases neg<;>rfl
 ·cases h
def top_un {op:UnOp} {x:AOpd} (h:top C q ty (.un op x) d s k=some r):∃ v hs,k v hs=some r∧zV S q (.un op x) d s v hs:=by
 simp only[top] at h;split at h
 ·rename_i n hx;exact ⟨_,_,h,.val rfl (by simp only[aop,zE,hx,av_i];rfl)⟩
 ·rename_i b hx;exact ⟨_,_,h,.val rfl (by simp only[aop,zE,hx,av_b];rfl)⟩
 ·cases h
def top_cvi {kd:IntKind} {x:AOpd} (h:top C q ty (.cvi kd x) d s k=some r):∃ v hs,k v hs=some r∧zV S q (.cvi kd x) d s v hs:=by
 simp only[top] at h;split at h
 ·rename_i n hx;exact ⟨_,_,h,.val rfl (by simp only[aop,zE,hx,av_i];rfl)⟩
 ·rename_i n hx;exact ⟨_,_,h,.val rfl (by simp only[aop,zE,hx,av_u];rfl)⟩
 ·rename_i n hx;exact ⟨_,_,h,.val rfl (by simp only[aop,zE,hx,av_i];rfl)⟩
 ·rename_i n hx;exact ⟨_,_,h,.val rfl (by simp only[aop,zE,hx,av_u];rfl)⟩
 ·rename_i n hx;exact ⟨_,_,h,.val rfl (by simp only[aop,zE,hx,av_i];rfl)⟩
 ·rename_i n hx;exact ⟨_,_,h,.val rfl (by simp only[aop,zE,hx];rfl)⟩
 ·cases h
def top_cvs {x:AOpd} (h:top C q ty (.cvs x) d s k=some r):∃ v hs,k v hs=some r∧zV S q (.cvs x) d s v hs:=by
 simp only[top] at h;split at h
 ·rename_i b hx;exact ⟨_,_,h,.val rfl (by simp only[aop,zE,hx,av_s];rfl)⟩
 ·cases h
def top_ifc {t:Nat} {x:AOpd} (h:top C q ty (.ifc t x) d s k=some r):∃ v hs,k v hs=some r∧zV S q (.ifc t x) d s v hs:=by
 simp only[top] at h;split at h
 ·rename_i n hb hx;rw[zB] at hb;subst hb;exact ⟨_,_,h,.val rfl (by simp only[aop,zE,hx,av_i];rfl)⟩
 ·cases h
 ·split at h
  ·cases h
  ·exact ⟨_,_,h,.wk (a:=.ifc t (s.toA.ev x)) rfl rfl (by simp only[aop]) (.ifc t _)⟩
 ·cases h
def lv2_of_lv {h:THp} {x:TV} (hl:lv h x=x) (hx:nofn x=true):lv2 h x=x∧zy h x=true:=by
 have:lv2 h x=x:=by cases x<;>first | exact hl | simp[nofn] at hx
 exact ⟨this,by rw[← this];exact jM h x⟩
def top_mkfn {f:Nat} {caps:List AOpd} (h:top C q ty (.mkfn f caps) d s k=some r):∃ v hs,k v hs=some r∧zV S q (.mkfn f caps) d s v hs:=by
 simp only[top] at h;split at h
 ·rename_i hb;have hb:=Af.1 hb;refine ⟨_,_,h,.val rfl ?_⟩;have h1:∀ x∈caps.map s.ev,lv2 s.hp x=x∧zy s.hp x=true:=fun x hx=>(by obtain ⟨y,hy,rfl⟩:=Ap.1 hx;exact lv2_of_lv (wl s y) (hb _ hx));rw[zaH,if_pos (Af.2 fun x hx=>(h1 x hx).2)];simp only[aop,AU];congr 3;refine Al fun y hy => ?_;have:=h1 (s.ev y) (Ap.2 ⟨y,hy,rfl⟩);have ay:=hb _ (Ap.2 ⟨y,hy,rfl⟩);simp only[Function.comp,zE,A2,this.1];cases hx:s.ev y<;>first | rfl | (rw[hx] at ay;simp[nofn] at ay)
 ·cases h
def zdi {α:Type} {r:α} {n:Nat} {lo hi:Option AOpd} {f:Int->Int->Option α} (h:bndT s n lo hi f=some r):∃ l u,bounds s.toA n lo hi=some (l.toNat,u.toNat)∧f l u=some r:=by
 unfold bndT at h;split at h
 ·rename_i u l hu hl;obtain ⟨h1,h⟩:=qg h;refine ⟨l,u, ?_,h⟩;have e1:(match (generalizing:=false) hi with | none=>some (n:Int) | some x=>zcv (s.toA.ev x))=some u:=by
   cases hi with
   | none=>exact hu
   | some x=>have:=zZ hu;simp only[zE,this];rfl
  have e2:(match (generalizing:=false) lo with | none=>some (0:Int) | some x=>zcv (s.toA.ev x))=some l:=by
   cases lo with
   | none=>exact hl
   | some x=>have:=zZ hl;simp only[zE,this];rfl
  have key:∀ (a b:Option Int),a=some u->b=some l->(match a,b with | some h,some l=>if 0<=l∧l<=h∧h<=n then some (l.toNat,h.toNat) else none | _,_=>none)=some (l.toNat,u.toNat):=(by intro a b ha hb;subst ha;subst hb;simp only;rw[if_pos (of_decide_eq_true h1)])
  exact key _ _ e1 e2
 ·cases h
def z_ne (z:Nat):¬ (z+1=0):=by omega
def top_slc {z:Nat} {x:AOpd} {lo hi:Option AOpd} (h:top C q ty (.slc z x lo hi) d s k=some r):∃ v hs,k v hs=some r∧zV S q (.slc z x lo hi) d s v hs:=by
 simp only[top] at h;split at h
 ·rename_i b hx;obtain ⟨l,u,hb,h⟩:=zdi h;exact ⟨_,_,h,.val rfl (by simp only[aop,zE,hx,if_true,av_s,hb];rfl)⟩
 ·rename_i z hx;obtain ⟨l,u,hb,h⟩:=zdi h;exact ⟨_,_,h,.val rfl (by simp only[aop,zE,hx,if_neg (z_ne _),av_nl,hb];rfl)⟩
 ·rename_i z t xs hx;split at h
  ·rename_i hz;rw[zB] at hz;obtain ⟨l,u,hb,h⟩:=zdi h;refine ⟨_,_,h,.val rfl ?_⟩;simp only[aop,zE,hx,if_neg (z_ne _),av_sl,Ar];rw[if_pos hz];simp only[hb,Ct,hz,Av_sl,Cc,Cd]
  ·cases h
 ·rename_i z r' v hx;obtain ⟨e1,e2⟩:=ye hx;split at h
  ·rename_i v' t xs hl;split at h
   ·rename_i hz;rw[zB] at hz;obtain ⟨l,u,hb,h⟩:=zdi h;obtain ⟨t',xs',bl⟩:=zbG (jl rfl e2);have hv:v'=v:=by rw[hl] at bl;injection bl
    subst hv;refine ⟨_,_,h,.val rfl ?_⟩;have e3:lv s.hp (.ls r' v' l.toNat (u.toNat - l.toNat))=.ls r' v' l.toNat (u.toNat - l.toNat):=by simp only[lv,lv2,lv1,hl,AG]
    rw[jA e3,av_ls hl];simp only[aop,e1,dY hl,if_neg (z_ne _)];rw[if_pos hz];simp only[hb,Ct,hz,AL]
   ·cases h
  ·cases h
 ·rename_i z r' v off len hx;obtain ⟨e1,e2⟩:=ye hx;split at h
  ·rename_i v' t xs hl;split at h
   ·rename_i hz;rw[zB] at hz;obtain ⟨l,u,hb,h⟩:=zdi h;obtain ⟨t',xs',bl⟩:=sl_ls (jl rfl e2);have hv:v'=v:=by rw[hl] at bl;injection bl
    subst hv;refine ⟨_,_,h,.val rfl ?_⟩;have e3:lv s.hp (.ls r' v' (off+l.toNat) (u.toNat - l.toNat))=.ls r' v' (off+l.toNat) (u.toNat - l.toNat):=by simp only[lv,lv2,lv1,hl,AG]
    rw[jA e3,av_ls hl];simp only[aop,e1,av_ls hl,if_neg (z_ne _)];rw[if_pos hz];simp only[hb,Ct,hz]
   ·cases h
  ·cases h
 ·cases h
def top_fa {off:Nat} {x:AOpd} (h:top C q ty (.fa off x) d s k=some r):∃ v hs,k v hs=some r∧zV S q (.fa off x) d s v hs:=by
 simp only[top] at h;split at h
 ·rename_i r' o hx;obtain ⟨e1,e2⟩:=ye hx;obtain ⟨cs,hl⟩:=sl_var (jl rfl e2);have e3:lv s.hp (.pv r' (o+off))=.pv r' (o+off):=by simp only[lv,lv2,lv1,hl]
  exact ⟨_,_,h,.val rfl (by simp only[aop,e1,av_pv,jA e3])⟩
 ·rename_i r' v i o hx;obtain ⟨e1,e2⟩:=ye hx;obtain ⟨t,xs,hl⟩:=ziI (jl rfl e2);have e3:lv s.hp (.pe r' v i (o+off))=.pe r' v i (o+off):=by simp only[lv,lv2,lv1,hl,AG]
  exact ⟨_,_,h,.val rfl (by simp only[aop,e1,zhD hl,jA e3])⟩
 ·rename_i t y o hx;exact ⟨_,_,h,.val rfl (by simp only[aop,zE,hx,av_ep,Av_ep])⟩
 ·cases h
def top_fld {off:Nat} {n:Option Nat} {x:AOpd} (h:top C q ty (.fld off n x) d s k=some r):∃ v hs,k v hs=some r∧zV S q (.fld off n x) d s v hs:=by
 simp only[top] at h;split at h
 ·rename_i cs hx;obtain ⟨e1,e2⟩:=ye hx;split at h
  ·rename_i v hv;obtain ⟨p1,p2⟩:=yY (lv_ag e2) hv;refine ⟨_,_,h,.val rfl ?_⟩;simp only[aop,e1];rw[show av s.hp (.ag cs)=.agg (cs.map (av1 s.hp)) from rfl];simp only[p1,jA p2]
  ·cases h
 ·cases h
def iv {i:AOpd} {n:Int} (h:(match s.ev i with | .i n=>some n | .u n=>some n | _=>none)=some n):∃ kd,s.toA.ev i=.v (.int kd n):=by
 split at h
 ·rename_i m hx;cases h;exact ⟨_,by rw[zE,hx];rfl⟩
 ·rename_i m hx;cases h;exact ⟨_,by rw[zE,hx];rfl⟩
 ·cases h
def top_ia {z:Nat} {x i:AOpd} (h:top C q ty (.ia z x i) d s k=some r):∃ v hs,k v hs=some r∧zV S q (.ia z x i) d s v hs:=by
 simp only[top] at h;split at h
 ·rename_i t xs n hx hi;obtain ⟨kd,ei⟩:=iv hi;split at h
  ·rename_i hz;rw[zB] at hz;obtain ⟨y,hy,h⟩:=jo h;obtain ⟨h1,h2⟩:=zbl hy;refine ⟨_,_,h,.val rfl ?_⟩;simp only[aop,zE s x,hx,av_sl,ei];rw[if_pos ⟨hz,h1⟩];simp only[Aw,h2,AE,Av_ep]
  ·cases h
 ·rename_i t y0 n hx hi;obtain ⟨kd,ei⟩:=iv hi;split at h
  ·rename_i hz;rw[zB] at hz;obtain ⟨y,hy,h9⟩:=jo h;clear h;obtain ⟨h1,h2⟩:=zbl hy;cases y0 with
   | none=>simp at h2
   | some xs =>refine ⟨_,_,h9,.val rfl ?_⟩;rw[A5] at h2;have e0:av s.hp (.ns t (some xs))=.sl t.z (xs.map t.cells):=rfl;simp only[aop,zE s x,hx,e0,ei];rw[if_pos ⟨hz,h1⟩];simp only[Aw,h2,AE,Av_ep]
  ·cases h
 ·rename_i r' v n hx hi;obtain ⟨kd,ei⟩:=iv hi;obtain ⟨e1,e2⟩:=ye hx;split at h
  ·rename_i v' t xs hl;split at h
   ·rename_i hz;rw[zB] at hz;obtain ⟨h1,h⟩:=qg h;have h1:=of_decide_eq_true h1;obtain ⟨t',xs',bl⟩:=zbG (jl rfl e2);have hv:v'=v:=by rw[hl] at bl;injection bl
    subst hv;refine ⟨_,_,h,.val rfl ?_⟩;have e3:lv s.hp (.pe r' v' n.toNat 0)=.pe r' v' n.toNat 0:=by simp only[lv,lv2,lv1,hl,AG]
    rw[jA e3,zhD hl];simp only[aop,e1,dY hl,ei];rw[if_pos ⟨hz,h1.1,h1.2⟩];simp only[hz,AL]
   ·cases h
  ·cases h
 ·rename_i r' v off len n hx hi;obtain ⟨kd,ei⟩:=iv hi;obtain ⟨e1,e2⟩:=ye hx;split at h
  ·rename_i v' t xs hl;split at h
   ·rename_i hz;rw[zB] at hz;obtain ⟨h1,h⟩:=qg h;have h1:=of_decide_eq_true h1;obtain ⟨t',xs',bl⟩:=sl_ls (jl rfl e2);have hv:v'=v:=by rw[hl] at bl;injection bl
    subst hv;refine ⟨_,_,h,.val rfl ?_⟩;have e3:lv s.hp (.pe r' v' (off+n.toNat) 0)=.pe r' v' (off+n.toNat) 0:=by simp only[lv,lv2,lv1,hl,AG]
    rw[jA e3,zhD hl];simp only[aop,e1,av_ls hl,ei];rw[if_pos ⟨hz,h1.1,h1.2⟩];simp only[hz]
   ·cases h
  ·cases h
 ·cases h
def top_ix {x i:AOpd} (h:top C q ty (.ix x i) d s k=some r):∃ v hs,k v hs=some r∧zV S q (.ix x i) d s v hs:=by
 simp only[top] at h;split at h
 ·rename_i b n hx hi;obtain ⟨kd,ei⟩:=iv hi;obtain ⟨y,hy,h⟩:=jo h;obtain ⟨h1,h2⟩:=zbl hy;refine ⟨_,_,h,.val rfl ?_⟩;simp only[aop,zE s x,hx,av_s,ei];rw[if_pos h1];rw[Bh] at h2;simp only[h2,Av_u]
 ·cases h
def top_ext {i:Nat} {x:AOpd} (h:top C q ty (.ext x i) d s k=some r):∃ v hs,k v hs=some r∧zV S q (.ext x i) d s v hs:=by
 simp only[top] at h;split at h
 ·rename_i vs hx;obtain ⟨e1,e2⟩:=ye hx;split at h
  ·rename_i v hv;have h1:=lv_tp e2 v (Ae hv);refine ⟨_,_,h,.val rfl ?_⟩;simp only[aop,e1];rw[show av s.hp (.tp vs)=.tup (vs.map (av2 s.hp)) from rfl];simp only[Aw,hv,AE,jA (zcI h1)];congr 2;cases v<;>first | rfl | simp[lv2,lv1] at h1
  ·cases h
 ·cases h
def top_len {str:Bool} {x:AOpd} (h:top C q ty (.len str x) d s k=some r):∃ v hs,k v hs=some r∧zV S q (.len str x) d s v hs:=by
 simp only[top] at h;split at h
 ·rename_i b hx;exact ⟨_,_,h,.val rfl (by simp only[aop,zE,hx,if_true,av_s,Av_i])⟩
 ·rename_i hx;exact ⟨_,_,h,.val rfl (by simp only[aop,zE,hx,Am,if_false,av_nl,Av_i])⟩
 ·rename_i t xs hx;exact ⟨_,_,h,.val rfl (by simp only[aop,zE,hx,Am,if_false,av_sl,Av_i,Ar])⟩
 ·rename_i t y hx;cases y with
  | none=>exact ⟨_,_,h,.val rfl (by
    have e0:av s.hp (.ns t none)=aN:=rfl;simp only[aop,zE,hx,Am,if_false,e0,aN,Av_i];rfl)⟩
  | some xs=>exact ⟨_,_,h,.val rfl (by
    have e0:av s.hp (.ns t (some xs))=.sl t.z (xs.map t.cells):=rfl;simp only[aop,zE,hx,Am,if_false,e0,Av_i,Ar,A5])⟩
 ·rename_i r' v hx;split at h
  ·rename_i v' t xs hl;exact ⟨_,_,h,.val rfl (by simp only[aop,zE,hx,Am,if_false,dY hl,Av_i])⟩
  ·cases h
 ·rename_i r' v off n hx;split at h
  ·rename_i v' t xs hl;exact ⟨_,_,h,.val rfl (by simp only[aop,zE,hx,Am,if_false,av_ls hl,Av_i])⟩
  ·cases h
 ·cases h
def top_pick {c a b:AOpd} (h:top C q ty (.pick c a b) d s k=some r):∃ v hs,k v hs=some r∧zV S q (.pick c a b) d s v hs:=by
 simp only[top] at h;split at h
 ·rename_i x hx;cases x with
  | true=>exact ⟨_,_,h,.val rfl (by simp only[aop,zE s c,hx,av_b,if_true,ev_Av])⟩
  | false=>exact ⟨_,_,h,.val rfl (by simp only[aop,zE s c,hx,av_b,Am,if_false,ev_Av])⟩
 ·cases h
def top_max2 {x y:AOpd} (h:top C q ty (.max2 x y) d s k=some r):∃ v hs,k v hs=some r∧zV S q (.max2 x y) d s v hs:=by
 simp only[top] at h;split at h
 ·rename_i a b hx hy;exact ⟨_,_,h,.val rfl (by simp only[aop,zE,hx,hy,av_i,Av_i];rfl)⟩
 ·cases h
def zgF {zero:List Value} {z0:ty.den} (hu:ziC ty (zero.map cst)=some z0) (he:exq q (zero.map cst)=true):(zero.map AV.v=ty.cells z0∨q=false)∧PN (zero.map AV.v) (ty.cells z0):=by
 have h1:=yU hu [];have e:(zero.map cst).map (av1 [])=zero.map AV.v:=by rw[AU];exact Al fun x _=>zhs _ x
 exact ⟨(all_ex he).symm.imp (fun h=>by rw[← h1.ex h,e]) id,by have:=h1.pn;rwa [e] at this⟩
def EWk.of_pn {es:List (List AV)} {fs:List (List AV)} (hl:es.length=fs.length) (h:∀ (i:Nat) (e f:List AV),es[i]? = some e->fs[i]? = some f->PN e f):EWk es fs :=
 ⟨hl,fun i e f he hf=>⟨(h i e f he hf).1,fun c x y hx hy=>((h i e f he hf).2 c x y hx hy).wk⟩⟩
def zgy {n d':Nat} {t:Ty} {xs:List t.den}:Av ((d',.row n t xs) :: s.hp) (.lw d' n)=.lsl d' t.z 0 xs.length:=by
 have e:look d' .gone ((d',TB.row n t xs) :: s.hp)=.row n t xs:=by rw[zf,if_pos rfl]
 have e3:lv ((d',TB.row n t xs) :: s.hp) (.lw d' n)=.lw d' n:=by simp only[lv,lv2,lv1,e,AG]
 rw[jA e3,dY e]
def top_mksl {z:Nat} {zero:List Value} {len cap:AOpd} (h:top C q ty (.mksl z zero len cap) d s k=some r):∃ v hs,k v hs=some r∧zV S q (.mksl z zero len cap) d s v hs:=by
 simp only[top] at h;split at h
 ·rename_i z0 n c hf hz hu hn hc;obtain ⟨hz,he⟩:=Au.1 hz;rw[zB] at hz;obtain ⟨h1,h⟩:=qg h;have h1:=of_decide_eq_true h1;obtain ⟨f0,f1⟩:=wg hf;obtain ⟨z1,z2⟩:=zgF hu he;refine ⟨_,_,h,.row (a:=.lsl d ty.z 0 n.toNat) (es:=List.replicate n.toNat (zero.map AV.v)) rfl (.newR f0) (fun _=>by rw[qu (zaA d s.ctr ty .int _ [])];exact f1) ?_ (by rw[zgy,Cm]) ?_⟩
  ·simp only[aop,zN,f0,blk,zE,hn,hc,av_i];rw[if_pos h1,hz]
  ·rw[BA];rcases z1 with z1 | z1
   ·left;rw[z1]
   ·right;refine ⟨z1,.of_pn (by simp) fun i e f hi hf => ?_⟩;obtain rfl:=BR (Ae hi);obtain rfl:=BR (Ae hf);exact z2
 ·cases h
def foldl_set (ps:List (Nat×List TV×ty.den)):∀ {es:List (List AV)} {xs:List ty.den},(∀ p∈ps,UnOk s.hp ty p.2.1 p.2.2)->EWk es (xs.map ty.cells) ->
  EWk ((ps.map fun p=>(p.1,p.2.1.map (av1 s.hp))).foldl (fun es p=>es.set p.1 p.2) es) (((ps.map fun p=>(p.1,p.2.2)).foldl (fun es p=>es.set p.1 p.2) xs).map ty.cells):=by
 induction ps with
 | nil=>intro es xs _ h;exact h
 | cons p ps ih =>
  intro es xs hp h;simp only[An,Br];refine ih (fun p bZ=>hp p (Ad _ bZ)) ?_;have hu:=hp p Ah;refine ⟨by simpa using h.1,fun j e f he hf => ?_⟩;rw[map_set] at hf;by_cases hj:p.1=j
  ·subst hj;simp only[BI,if_true] at he hf;split at he
   ·split at hf
    ·cases he;cases hf;exact ⟨hu.pn.1,fun c x y hx hy=>(hu.pn.2 c x y hx hy).wk⟩
    ·cases hf
   ·cases he
  ·simp only[BI,if_neg hj] at he hf;exact h.2 j e f he hf
def yr (ps:List (Nat×List TV×ty.den)):∀ {xs:List ty.den},(∀ p∈ps,p.2.1.map (av1 s.hp)=ty.cells p.2.2) ->
  (ps.map fun p=>(p.1,p.2.1.map (av1 s.hp))).foldl (fun es p=>es.set p.1 p.2) (xs.map ty.cells)=((ps.map fun p=>(p.1,p.2.2)).foldl (fun es p=>es.set p.1 p.2) xs).map ty.cells:=by
 induction ps with
 | nil=>intro xs _;rfl
 | cons p ps ih =>intro xs hp;simp only[An,Br];rw[hp p Ah,← map_set];exact ih fun p bZ=>hp p (Ad _ bZ)
def foldl_len {β:Type} (ps:List (Nat×β)):∀ (es:List β),(ps.foldl (fun es p=>es.set p.1 p.2) es).length=es.length:=by
 induction ps with
 | nil=>intro es;rfl
 | cons p ps ih=>intro es;simp only[Br];rw[ih];simp
def zeq {h:THp} {y:TV} (hy:rf1 y=[]):(av1 h y).refs=[]:=by
 cases y with
 | e x=>cases x<;>simp[av1,Err.av,AV.refs,aI]
 | ns t x=>cases x<;>simp[av1,AV.refs,aN]
 | lw=>simp[rf1] at hy
 | ls=>simp[rf1] at hy
 | pe=>simp[rf1] at hy
 | pv=>simp[rf1] at hy
 | _=>simp[av1,AV.refs,aI,aU,aB,aS,aN,ud]
def rf2_refs {h:THp} {y:TV} (hy:rf2 y=[]):(av2 h y).refs=[]:=by
 cases y with
 | ag cs =>simp only[av2,AV.refs];refine Ax.2 fun r0 dN => ?_;obtain ⟨_,h1,h2⟩:=zd.1 dN;obtain ⟨z,hz,rfl⟩:=Ap.1 h1;rw[zeq (h:=h) (A7.1 hy z hz)] at h2;cases h2
 | _=>exact zeq (h:=h) (by simpa only[rf2] using hy)
def zao {h:THp} {x:TV} (hl:lv h x=x) (hr:rf x=[]):(av h x).refs=[]:=by
 have one:∀ y,rf1 y=[]->(av1 h y).refs=[]:=by
  intro y hy;cases y with
  | e x=>cases x<;>simp[av1,Err.av,AV.refs,aI]
  | ns t x=>cases x<;>simp[av1,AV.refs,aN]
  | lw=>simp[rf1] at hy
  | ls=>simp[rf1] at hy
  | pe=>simp[rf1] at hy
  | pv=>simp[rf1] at hy
  | _=>simp[av1,AV.refs,aI,aU,aB,aS,aN,ud]
 have two:∀ y,rf2 y=[]->(av2 h y).refs=[]:=by
  intro y hy;cases y with
  | ag cs =>simp only[av2,AV.refs];refine Ax.2 fun r0 dN => ?_;obtain ⟨_,h1,h2⟩:=zd.1 dN;obtain ⟨z,hz,rfl⟩:=Ap.1 h1;rw[one z (A7.1 hy z hz)] at h2;cases h2
  | _=>exact one _ (by simpa only[rf2] using hy)
 cases x with
 | tp cs =>simp only[av,AV.refs];refine Ax.2 fun r0 dN => ?_;obtain ⟨_,h1,h2⟩:=zd.1 dN;obtain ⟨z,hz,rfl⟩:=Ap.1 h1;rw[two z (A7.1 hr z hz)] at h2;cases h2
 | fn f cs =>simp only[av,AV.refs];refine Ax.2 fun r0 dN => ?_;obtain ⟨_,h1,h2⟩:=zd.1 dN;obtain ⟨z,hz,rfl⟩:=Ap.1 h1;rw[two z (A7.1 hr z hz)] at h2;cases h2
 | ag cs=>exact two (.ag cs) hr
 | _=>exact two _ (by simpa only[rf] using hr)
def zbi {α β γ:Type} {f:α->Option (γ×β)} {g:α->γ} (hf:∀ a y,f a=some y->y.1=g a):∀ {l:List α} {ys:List (γ×β)},zb f l=some ys->l.map g=ys.map (·.1)
 | [],ys,h=>by simp only[zb,Option.some.injEq] at h;subst h;rfl
 | a :: l,ys,h=>by
  simp only[zb] at h;split at h
  ·rename_i y zs h1 h2;cases h;simp only[An];rw[hf _ _ h1,zbi hf h2]
  ·cases h
def zcP {α:Type}:∀ (qs:List (Nat×α)) (l1 l2:List α),l1.length=l2.length->(∀ i,i < l1.length->i∈qs.map (·.1)∨l1[i]? = l2[i]?)->qs.foldl (fun es p=>es.set p.1 p.2) l1=qs.foldl (fun es p=>es.set p.1 p.2) l2
 | [],l1,l2,hl,h=>by
  show l1=l2;apply List.ext_getElem?;intro i;by_cases hi:i < l1.length
  ·rcases h i hi with h | h
   ·simp at h
   ·exact h
  ·rw[BC (by omega),BC (by omega)]
 | p :: qs,l1,l2,hl,h=>by
  simp only[Br];refine zcP qs _ _ (by simp[hl]) fun i hi => ?_;simp only[List.length_set] at hi;by_cases e:p.1=i
  ·right;subst e;rw[BU hi,BU (by omega)]
  ·rcases h i hi with h | h
   ·rw[An,Aq] at h;exact .inl (h.resolve_left (Ne.symm e))
   ·right;rw[B3 e,B3 e,h]
def bslT_ok {frz:Bool} {z:Nat} {zero:List Value} {len:Nat} {parts:List (Nat×AOpd)} (hr:(parts.flatMap fun p=>rf (s.ev p.2))=[]) (h:bslT q ty z zero len parts d s k=some r) :
  ∃ v b,k v [(d,b)]=some r∧zV S q (.bslice frz z zero len parts) d s v [(d,b)]:=by
 unfold bslT at h;split at h
 ·rename_i z0 ps hf hz hu eM;obtain ⟨hz,he⟩:=Au.1 hz;rw[zB] at hz;obtain ⟨f0,f1⟩:=wg hf
  -- the parts,with their cells
  have hex:∀ (l:List (Nat×AOpd)) (ps:List (Nat×ty.den)),zb (fun (p:Nat×AOpd)=>match wS (s.ev p.2) with | some cs=>(match exq q cs,ziC ty cs with | true,some x=>some (p.1,x) | _,_=>none) | none=>none) l=some ps ->
    ∃ qs:List (Nat×List TV×ty.den),ps=qs.map (fun p=>(p.1,p.2.2))∧(∀ p∈qs,UnOk s.hp ty p.2.1 p.2.2∧exq q p.2.1=true) ∧
     zb (fun (p:Nat×AOpd)=>match (s.toA.ev p.2).cells with | some cs=>(match zb (qn s.toA.hp) cs with | some cs=>if cs.length=z then some (p.1,cs) else none | none=>none) | none=>none) l=some (qs.map fun p=>(p.1,p.2.1.map (av1 s.hp))):=by
   intro l
   induction l with
   | nil=>intro ps h;simp only[zb,Option.some.injEq] at h;subst h;exact ⟨[],rfl,by simp,rfl⟩
   | cons p l ih =>
    intro ps h;simp only[zb] at h;split at h
    ·rename_i y ys h1 h2;cases h;obtain ⟨qs,k1,k2,k3⟩:=ih ys h2;split at h1
     ·rename_i cs hc;split at h1
      ·rename_i x hx lU;cases h1;obtain ⟨c1,c2⟩:=wR (wl s p.2) hc;have cG:=yU lU s.hp;refine ⟨(p.1,cs,x) :: qs,by simp[k1],by simpa using ⟨⟨cG,hx⟩,fun a b c hm=>k2 (a,b,c) hm⟩, ?_⟩;have hs:∀ y∈cs,ql s.hp y=y:=fun y hy=>(by have:=(cG.flat y hy);cases y<;>first | rfl | simp[zbD,rf1] at this)
       have h3:zb (qn s.toA.hp) (cs.map (av1 s.hp))=some (cs.map (av1 s.hp)):=(by have:=(zaV (h:=s.hp) (cs:=cs) (fun y hy=>(c2 y hy).1) (by rw[Al hs,BQ];exact cG.flat)).1;rw[Al hs,BQ] at this;exact this);have hlen:(cs.map (av1 s.hp)).length=z:=by rw[cG.pn.1,j8,hz]
       have e1:=zE s p.2;simp only[zb,e1,c1,h3,if_pos hlen]
       erw [k3]
       rfl
      ·cases h1
     ·cases h1
    ·cases h
  obtain ⟨qs,rfl,k2,k3⟩:=hex parts ps eM;have hrefs:qT s.toA parts=[]:=(by unfold qT;refine Ax.2 fun r0 dN => ?_;obtain ⟨_,h1,h2⟩:=zd.1 dN;obtain ⟨p,hp,rfl⟩:=Ap.1 h1;rw[zE,zao (wl s p.2) (A7.1 hr p hp)] at h2;cases h2);refine ⟨_,_,h,.row (a:=.lsl d ty.z 0 len) (es:=(qs.map fun p=>(p.1,p.2.1.map (av1 s.hp))).foldl (fun es p=>es.set p.1 p.2) (List.replicate len (zero.map AV.v))) rfl (.newR f0) (fun _=>by rw[qu (zaA d s.ctr ty .int _ [])];exact f1) ?_ ?_ ?_⟩
  ·have e0:s.toA.hp d=none:=by rw[zN,f0];rfl
   simp only[aop,e0]
   erw [k3]
   simp only[hrefs,ASt.freezeL,or_true,if_true,hz]
  ·rw[zgy,foldl_len,Cm]
  ·by_cases dQ:exq q (zero.map cst)=true
   ·obtain ⟨z1,z2⟩:=zgF hu dQ;rcases z1 with z1 | z1
    ·cases hq:q with
     | true =>left;have hx:∀ p∈qs,p.2.1.map (av1 s.hp)=ty.cells p.2.2:=fun p hp=>(by obtain ⟨a,b⟩:=k2 p hp;rw[hq] at b;exact a.ex (by simpa[exq] using b));rw[z1,← BA];exact yr qs hx
     | false =>right;refine ⟨rfl,foldl_set qs (fun p hp=>(k2 p hp).1) ?_⟩;rw[z1,← BA];exact .rfl _
    ·right;refine ⟨z1,foldl_set qs (fun p hp=>(k2 p hp).1) (.of_pn (by simp) fun i e f hi hf => ?_)⟩;rw[BA] at hf;obtain rfl:=BR (Ae hi);obtain rfl:=BR (Ae hf);exact z2
   ·have hq:q=true:=by
     cases q with
     | true=>rfl
     | false=>exact absurd rfl dQ
    left;have hx:∀ p∈qs,p.2.1.map (av1 s.hp)=ty.cells p.2.2:=fun p hp=>(by obtain ⟨a,b⟩:=k2 p hp;rw[hq] at b;exact a.ex (by simpa[exq] using b));have gz:covB len (parts.map (·.1))=true:=by simpa[dQ] using he
    have bS:parts.map (·.1)=(qs.map fun p=>(p.1,p.2.1.map (av1 s.hp))).map (·.1):=zbi (fun p y hy=>by
     split at hy
     ·split at hy
      ·split at hy
       ·cases hy;rfl
       ·cases hy
      ·cases hy
     ·cases hy) k3
    rw[zcP (qs.map fun p=>(p.1,p.2.1.map (av1 s.hp))) (List.replicate len (zero.map AV.v)) (List.replicate len (ty.cells z0)) (by simp) fun i hi => ?_]
    ·rw[← BA];exact yr qs hx
    ·left;rw[← bS];have:=Af.1 gz i (by simpa using hi);obtain ⟨j,hj,e⟩:=List.any_eq_true.1 this;rw[zB] at e;subst e;exact hj
 ·cases h
def ziH {h:THp} {y:TV} (hy:zbD y):qn (fun _=>none) (av1 h y)=some (av1 h y):=by
 have e1:av1 h y=av1 [] y:=by
  have h1:=hy.1;cases y with
  | ns t x=>cases x<;>rfl
  | _=>first | rfl | (simp[rf1] at h1;done)
 have e2:ql [] y=y:=(by have h1:=hy.1;cases y<;>first | rfl | (simp[rf1] at h1;done))
 have h3:=zem (h:=[]) (j7 hy) (by rw[e2];exact hy.2.2.2);rw[e2] at h3;rw[e1];exact h3
def zcw {f:AV->Option AV}:∀ {l:List AV},(∀ x∈l,f x=some x)->zb f l=some l
 | [],_=>rfl
 | x :: l,h=>by simp only[zb,h x Ah,zcw fun y hy=>h y (Ad _ hy)]
def top_lit {z:Nat} {zero:List Value} {len:Nat} {parts:List (Nat×AOpd)} (h:top C q ty (.lit z zero len parts) d s k=some r):∃ v hs,k v hs=some r∧zV S q (.lit z zero len parts) d s v hs:=by
 simp only[top,litT] at h;split at h
 ·rename_i z0 ps hc hu eM;obtain ⟨hc,he⟩:=Au.1 hc;obtain ⟨hz,hr⟩:=Au.1 hc;rw[zB] at hz
  have hex:∀ (l:List (Nat×AOpd)) (ps:List (Nat×ty.den)),zb (fun (p:Nat×AOpd)=>match wS (s.ev p.2) with | some cs=>(match exq true cs,ziC ty cs with | true,some x=>some (p.1,x) | _,_=>none) | none=>none) l=some ps ->
    ∃ qs:List (Nat×List TV×ty.den),ps=qs.map (fun p=>(p.1,p.2.2))∧(∀ p∈qs,p.2.1.map (av1 s.hp)=ty.cells p.2.2) ∧
     zb (fun (p:Nat×AOpd)=>match (s.toA.ev p.2).cells with | some cs=>(match zb (qn fun _=>none) cs with | some cs=>if cs.length=z then some (p.1,cs) else none | none=>none) | none=>none) l=some (qs.map fun p=>(p.1,p.2.1.map (av1 s.hp))):=by
   intro l
   induction l with
   | nil=>intro ps h;simp only[zb,Option.some.injEq] at h;subst h;exact ⟨[],rfl,by simp,rfl⟩
   | cons p l ih =>
    intro ps h;simp only[zb] at h;split at h
    ·rename_i y ys h1 h2;cases h;obtain ⟨qs,k1,k2,k3⟩:=ih ys h2;split at h1
     ·rename_i cs hc;split at h1
      ·rename_i x hx lU;cases h1;obtain ⟨c1,c2⟩:=wR (wl s p.2) hc;have cG:=yU lU s.hp;have bg:cs.map (av1 s.hp)=ty.cells x:=cG.ex (by simpa[exq] using hx);refine ⟨(p.1,cs,x) :: qs,by simp[k1],by simpa using ⟨bg,fun a b c hm=>k2 (a,b,c) hm⟩, ?_⟩;have h3:zb (qn fun _=>none) (cs.map (av1 s.hp))=some (cs.map (av1 s.hp)):=zcw fun x hx=>(by obtain ⟨y,hy,rfl⟩:=Ap.1 hx;exact ziH (cG.flat y hy));have hlen:(cs.map (av1 s.hp)).length=z:=by rw[cG.pn.1,j8,hz]
       have e1:=zE s p.2;simp only[zb,e1,c1,h3,if_pos hlen]
       erw [k3]
       rfl
      ·cases h1
     ·cases h1
    ·cases h
  obtain ⟨qs,rfl,hx,k3⟩:=hex parts ps eM;have bc:(qs.map fun p=>(p.1,p.2.1.map (av1 s.hp))).foldl (fun es p=>es.set p.1 p.2) (List.replicate len (zero.map AV.v))=((qs.map fun p=>(p.1,p.2.2)).foldl (fun es p=>es.set p.1 p.2) (List.replicate len z0)).map ty.cells:=by
   by_cases dQ:exq true (zero.map cst)=true
   ·obtain ⟨z1,z2⟩:=zgF (q:=true) hu dQ;rcases z1 with z1 | z1
    ·rw[z1,← BA];exact yr qs hx
    ·cases z1
   ·have gz:covB len (parts.map (·.1))=true:=by simpa[dQ] using he
    have bS:parts.map (·.1)=(qs.map fun p=>(p.1,p.2.1.map (av1 s.hp))).map (·.1):=zbi (fun p y hy=>by
     split at hy
     ·split at hy
      ·split at hy
       ·cases hy;rfl
       ·cases hy
      ·cases hy
     ·cases hy) k3
    rw[zcP (qs.map fun p=>(p.1,p.2.1.map (av1 s.hp))) (List.replicate len (zero.map AV.v)) (List.replicate len (ty.cells z0)) (by simp) fun i hi => ?_]
    ·rw[← BA];exact yr qs hx
    ·left;rw[← bS];have:=Af.1 gz i (by simpa using hi);obtain ⟨j,hj,e⟩:=List.any_eq_true.1 this;rw[zB] at e;subst e;exact hj
  refine ⟨_,_,h,.val rfl ?_⟩;simp only[aop]
  erw [k3]
  simp only[bc,hz];rfl
 ·cases h
def zV.pre {o:AOp} {v:TV} {hs h1:THp} (hq:q=false) (hc:(za S).cv s.toA (s.push h1).toA) (h:zV S q o d (s.push h1) v hs):zV S q o d s v (hs++h1):=by
 obtain ⟨h0,a,st1,k1,k2,k3⟩:=h;rw[qx] at k1 k2;refine ⟨h0++h1,a,st1,.inr ⟨hq, ?_⟩,k2,fun dst => ?_⟩
 ·rcases k1 with k1 | ⟨_,k1⟩
  ·rw[← k1];exact hc
  ·exact zeY hc k1
 ·have:=k3 dst;rw[qj] at this ⊢;rw[← qx];simpa only[TSt.push,AB] using this
def ziE {frz:Bool} {z:Nat} {zero:List Value} {len:Nat} {parts:List (Nat×AOpd)} (h:top C q ty (.bslice frz z zero len parts) d s k=some r):∃ v hs,k v hs=some r∧zV S q (.bslice frz z zero len parts) d s v hs:=by
 simp only[top] at h;split at h
 ·rename_i hr;obtain ⟨v,b,h1,h2⟩:=bslT_ok (S:=S) (frz:=frz) hr h;exact ⟨_,_,h1,h2⟩
 ·split at h
  ·cases h
  ·split at h
   ·cases h
   ·rename_i h1 hfz;split at h
    ·rename_i hr;obtain ⟨v,b,h2,h3⟩:=bslT_ok (S:=S) (frz:=frz) hr h;exact ⟨_,_,h2,h3.pre rfl (zay _ _ _ hfz)⟩
    ·cases h
def elemsT_ok {t:Ty} {v:TV} {ys:List t.den} (hl:lv s.hp v=v) (h:elemsT t s.hp v=some ys):jz s.toA.hp t.z (av s.hp v)=some (ys.map t.cells):=by
 unfold elemsT at h;cases v with
 | nl=>simp only[ql,dSl,Option.some.injEq] at h;subst h;rfl
 | sl t' xs=>obtain ⟨rfl,rfl⟩:=zJ h;simp only[av_sl,jz,if_true]
 | ns t' x =>
  cases x with
  | none=>obtain ⟨rfl,rfl⟩:=zJ h;rfl
  | some xs=>obtain ⟨rfl,rfl⟩:=zJ h;simp only[av,av2,av1,jz,if_true]
 | lw r' v =>obtain ⟨t',xs,bl⟩:=zbG (jl rfl hl);simp only[ql,bl,dSl] at h;obtain ⟨rfl,rfl⟩:=zJ h;rw[dY bl];simp[jz,zN,bl,blk,BL]
 | _=>simp[ql,dSl] at h
def top_app {z:Nat} {x y:AOpd} (h:top C q ty (.app z x y) d s k=some r):∃ v hs,k v hs=some r∧zV S q (.app z x y) d s v hs:=by
 simp only[top] at h;split at h
 ·rename_i ys hz hy;rw[zB] at hz;have ji:=elemsT_ok (wl s y) hy;rw[← hz] at ji;split at h
  ·rename_i hx;split at h
   ·rename_i hf;obtain ⟨h1,h⟩:=qg h;have h1:=of_decide_eq_true h1;obtain ⟨f0,f1⟩:=wg hf;refine ⟨_,_,h,.heap (a:=.lsl d z 0 ys.length) rfl (.newR f0) (fun _=>by rw[qu (zaA d s.ctr ty .int _ [])];exact f1) ?_ (by rw[zgy,hz])⟩;simp only[aop,zE,ji,hx,av_nl,Ar];rw[if_pos h1,zN,f0];simp only[blk,hz]
   ·cases h
  ·rename_i r' v hx;obtain ⟨e1,e2⟩:=ye hx;split at h
   ·rename_i v' t xs hl hb;obtain ⟨cE,cX⟩:=Au.1 hb;have cE:zav r'=false:=by simpa using cE
    split at h
    ·rename_i xs' hc;obtain ⟨rfl,rfl⟩:=zJ hc;obtain ⟨h1,h⟩:=qg h;have h1:=of_decide_eq_true h1;refine ⟨_,_,h,⟨[],.lsl r' z 0 (xs'.length+ys.length),(s.toA.scrub r').setH r' (some (.arr t.z ((xs'++ys).map t.cells))),.inl rfl,wA rfl ?_,fun dst=>.inl ?_⟩⟩
     ·rw[yC];simp only[aop,zE s y,ji,e1,dY hl,zN,hl,blk,Ar];rw[if_pos ⟨cE,hz,hz,True.intro,h1⟩];simp only[Bl,hz]
     ·have e3:=zgy (s:=s) (n:=s.ctr) (d':=r') (t:=t) (xs:=xs'++ys);rw[AX,← hz] at e3;rw[qj,toA_app hl cX];show _=ASt.putO _ dst (Av ((r',TB.row s.ctr t (xs'++ys)) :: s.hp) (TV.lw r' s.ctr));rw[e3]
    ·cases h
   ·cases h
  ·cases h
 ·cases h
end
end
section
open Go Go.RowKit
def scr1g {h:THp} {r v:Nat} {t:Ty} {xs:List t.den} (h0:look r .gone h=.row v t xs) {y:TV} :
  ze ((r,.gone) :: h) y=(ze h y && !((A1 h y).refs.contains r))∧(ze ((r,.gone) :: h) y=true->A1 ((r,.gone) :: h) y=A1 h y):=by
 have other:∀ k,r≠k->look k .gone ((r,TB.gone) :: h)=look k .gone h:=fun k hk=>by rw[zf,if_neg hk]
 have here:look r .gone ((r,TB.gone) :: h)=.gone:=by rw[zf,if_pos rfl]
 have fin:∀ (b:Bool) (a:AV),(b=true->r ∉ a.refs)->b=(b && !(a.refs.contains r)):=by
  intro b a ha;cases b with
  | false=>rfl
  | true=>simp[AP,ha rfl]
 cases y with
 | lw k w =>
  by_cases hk:r=k
  ·subst hk;refine ⟨?_,fun hl => ?_⟩
   ·simp only[ze,here,h0,A1,lv1];cases hb:w.beq v with
    | false=>rfl
    | true=>simp[av1,h0,AV.refs]
   ·simp only[ze,here] at hl;cases hl
  ·refine ⟨?_,fun _ => ?_⟩
   ·rw[show ze ((r,TB.gone) :: h) (.lw k w)=ze h (.lw k w) by simp only[ze,other k hk]];refine fin _ _ fun _ hm => ?_;have:=(by
     simp only[A1,lv1] at hm
     repeat' split at hm
     all_goals (first | (simp only[av1] at hm;repeat' split at hm) | skip)
     all_goals (simp[AV.refs] at hm)
     all_goals exact hm:r=k)
    exact hk this
   ·simp only[A1,lv1,other k hk]
    repeat' split
    all_goals simp only[av1,other k hk]
 | ls k w off len =>
  by_cases hk:r=k
  ·subst hk;refine ⟨?_,fun hl => ?_⟩
   ·simp only[ze,here,h0,A1,lv1];cases hb:w.beq v with
    | false=>rfl
    | true=>simp[av1,h0,AV.refs]
   ·simp only[ze,here] at hl;cases hl
  ·refine ⟨?_,fun _ => ?_⟩
   ·rw[show ze ((r,TB.gone) :: h) (.ls k w off len)=ze h (.ls k w off len) by simp only[ze,other k hk]];refine fin _ _ fun _ hm => ?_;have:=(by
     simp only[A1,lv1] at hm
     repeat' split at hm
     all_goals (first | (simp only[av1] at hm;repeat' split at hm) | skip)
     all_goals (simp[AV.refs] at hm)
     all_goals exact hm:r=k)
    exact hk this
   ·simp only[A1,lv1,other k hk]
    repeat' split
    all_goals simp only[av1,other k hk]
 | pe k w i off =>
  by_cases hk:r=k
  ·subst hk;refine ⟨?_,fun hl => ?_⟩
   ·simp only[ze,here,h0,A1,lv1];cases hb:w.beq v with
    | false=>rfl
    | true=>simp[av1,h0,AV.refs]
   ·simp only[ze,here] at hl;cases hl
  ·refine ⟨?_,fun _ => ?_⟩
   ·rw[show ze ((r,TB.gone) :: h) (.pe k w i off)=ze h (.pe k w i off) by simp only[ze,other k hk]];refine fin _ _ fun _ hm => ?_;have:=(by
     simp only[A1,lv1] at hm
     repeat' split at hm
     all_goals (first | (simp only[av1] at hm;repeat' split at hm) | skip)
     all_goals (simp[AV.refs] at hm)
     all_goals exact hm:r=k)
    exact hk this
   ·simp only[A1,lv1,other k hk]
    repeat' split
    all_goals simp only[av1,other k hk]
 | pv k off =>
  by_cases hk:r=k
  ·subst hk;exact ⟨by simp only[ze,here,h0,Cr],fun hl=>by simp only[ze,here] at hl;cases hl⟩
  ·refine ⟨?_,fun _ => ?_⟩
   ·rw[show ze ((r,TB.gone) :: h) (.pv k off)=ze h (.pv k off) by simp only[ze,other k hk]];refine fin _ _ fun _ hm => ?_;have:=(by
     simp only[A1,lv1] at hm
     repeat' split at hm
     all_goals simp[av1,AV.refs] at hm
     all_goals exact hm:r=k)
    exact hk this
   ·simp only[A1,lv1,other k hk]
    repeat' split
    all_goals simp only[av1]
 | e x=>exact ⟨by cases x<;>simp[ze,A1,lv1,av1,Err.av,AV.refs,aI],fun _=>rfl⟩
 | ns t x=>exact ⟨by cases x<;>simp[ze,A1,lv1,av1,AV.refs,aN],fun _=>by cases x<;>rfl⟩
 | ag=>exact ⟨rfl,fun _=>rfl⟩
 | tp=>exact ⟨rfl,fun _=>rfl⟩
 | fn=>exact ⟨rfl,fun _=>rfl⟩
 | _=>exact ⟨by simp[ze,A1,lv1,av1,AV.refs,aI,aU,aB,aS,aN,ud],fun _=>rfl⟩
def scr2g {h:THp} {r v:Nat} {t:Ty} {xs:List t.den} (h0:look r .gone h=.row v t xs) {x:TV} :
  zy ((r,.gone) :: h) x=(zy h x && !((A2 h x).refs.contains r))∧(zy ((r,.gone) :: h) x=true->A2 ((r,.gone) :: h) x=A2 h x):=by
 by_cases hx:leaf x=true
 ·have:=scr1g (y:=x) h0;simp only[qL hx,jB hx];exact this
 ·cases x with
  | ag cs =>
   have h1:=fun y (hy:y∈cs)=>scr1g (y:=y) h0;have e:cs.all (ze ((r,.gone) :: h))=(cs.all (ze h) && !(cs.any fun y=>(A1 h y).refs.contains r)):=qV fun y hy=>(h1 y hy).1;refine ⟨?_,fun hl => ?_⟩
   ·simp only[zy];rw[e,yc];cases ha:cs.all (ze h) with
    | false=>rfl
    | true=>simp only[if_true,AV.refs,qA,B5,A4];rfl
   ·simp only[zy] at hl;have e9:=hl;rw[e] at e9;rw[yc,yc,if_pos hl,if_pos (Au.1 e9).1,Al fun y hy=>(h1 y hy).2 (Af.1 hl y hy)]
  | tp=>exact ⟨rfl,fun _=>rfl⟩
  | fn=>exact ⟨rfl,fun _=>rfl⟩
  | _=>simp[leaf] at hx
def scr3g {h:THp} {r v:Nat} {t:Ty} {xs:List t.den} (h0:look r .gone h=.row v t xs) {x:TV} :
  Av ((r,.gone) :: h) x=scrub r (Av h x):=by
 by_cases hx:leaf x=true
 ·rw[qC hx,qC hx];have key:=scr1g (y:=x) h0;have:=js key.1 key.2;have e1:∀ h:THp,(if ze h x=true then A1 h x else .bot)=A1 h x:=fun h=>by
   cases hb:ze h x with
   | true=>rfl
   | false=>rw[zaI hb];rfl
  rwa [e1,e1] at this
 ·have top:∀ (cs:List TV),cs.all (zy ((r,.gone) :: h))=(cs.all (zy h) && !(AV.refsL (cs.map (A2 h))).contains r) ∧
   (cs.all (zy ((r,.gone) :: h))=true->cs.map (A2 ((r,.gone) :: h))=cs.map (A2 h)):=by
   intro cs;have h1:=fun y (hy:y∈cs)=>scr2g (x:=y) h0;refine ⟨?_,fun hl=>Al fun y hy=>(h1 y hy).2 (Af.1 hl y hy)⟩;simp only[qA,B5];exact qV fun y hy=>(h1 y hy).1
  cases x with
  | ag cs =>have h1:=fun y (hy:y∈cs)=>scr1g (y:=y) h0;have e:cs.all (ze ((r,.gone) :: h))=(cs.all (ze h) && !((AV.agg (cs.map (A1 h))).refs.contains r)):=(by simp only[AV.refs,qA,B5];exact qV fun y hy=>(h1 y hy).1);rw[dX,dX];exact js e fun hl=>by rw[Al fun y hy=>(h1 y hy).2 (Af.1 hl y hy)]
  | tp cs =>have:=top cs;rw[dC,dC];exact js (by rw[AV.refs];exact this.1) fun hl=>by rw[this.2 hl]
  | fn f cs =>have:=top cs;rw[zaH,zaH];exact js (by rw[AV.refs];exact this.1) fun hl=>by rw[this.2 hl]
  | _=>simp[leaf] at hx
def toA_gone {s:TSt} {r v:Nat} {t:Ty} {xs:List t.den} (h0:look r .gone s.hp=.row v t xs) :
  (s.push [(r,.gone)]).toA=(s.toA.scrub r).setH r none:=by
 have cO:(s.push [(r,.gone)]).toA.fr=(s.toA.scrub r).fr:=(by funext k;simp only[zbF,TSt.push,As,AA,ASt.scrub];exact scr3g h0);have cV:(s.push [(r,.gone)]).toA.hp=upd (s.toA.scrub r).hp r none:=by
  funext k;simp only[zN,TSt.push,As,AA,upd,zf,ASt.scrub];by_cases hr:r=k
  ·subst hr;simp[blk]
  ·rw[if_neg hr,if_neg (Ne.symm hr)];cases hb:look k .gone s.hp with
   | var cs =>
    simp only[blk,AE,ws,Option.some.injEq,Blk.var.injEq,AU];refine Al fun y hy => ?_;simp only[Function.comp];by_cases hy:leaf y=true
    ·have:=scr3g h0 (x:=y)
     rwa [qC hy,qC hy] at this
    ·cases y<;>first | rfl | simp[leaf] at hy
   | _=>rfl
 show (⟨(s.push [(r,.gone)]).toA.fr,(s.push [(r,.gone)]).toA.hp⟩:ASt)=⟨(s.toA.scrub r).fr,upd (s.toA.scrub r).hp r none⟩;rw[cO,cV]
end
section
open Go Go.RowKit
section
variable {S:Seat} {q:Bool} {α:Type} {C:List CSpec} {ty:Ty} {d:Nat} {s:TSt} {k:TV->THp->Option α} {r:α}
def keptK (muts:List Nat):List Nat:=match objK muts with | 1=>[4000] | 2=>[5000,5000] | _=>jc muts
def keptK_of {muts:List Nat} (h:Nat.beq (objK muts) 0=true):keptK muts=jc muts:=by simp only[keptK,Bg h]
def unb:AV->AV
 | .tup []=>.bot
 | x=>x
def zjn (S:Seat) (f:Nat) (as:List AV):(ks:List Nat)->(sh:Sh)->sh.den->Prop
 | [],sh,y=>(za S).ret f as (encA sh y) []
 | [i],.own t,y=>(za S).ret f as (.tup []) [(i,List.map t.cells y)]
 | [_],.tp [.tp l,R],y=>(match as with | .tup cs :: as=>(za S).reto f (cs.map unb) as (encA R y.2) ((encAL l y.1).map unb) | _=>True)
 | [_,_],.tp [.tp l,.err],y=>(match y.2.isNil with | true=>(za S).retn f as [.v .nilIface] ((encAL l y.1).map unb) | false=>(za S).ret f as (.tup [.v (.pointer none),y.2.av]) [])
 | _,_,_=>True
def zW (S:Seat) (C:List CSpec):Prop:=∀ c∈C,∀ x y,c.fn x=some y->zjn S c.f (encAL c.sig x) (keptK c.muts) c.res y
def wk_own {x y:AV} (h:Wk (fun _=>False) x y) (hy:zm y=true):x=y:=by
 cases h with
 | rfl=>rfl
 | _=>simp[zm] at hy
def zhS {f:Nat} {as bs:List AV} {r:AV} {outs:bO} (hp:PK as bs) (hn:∀ (i:Nat) (x y:AV),as[i]? = some x->bs[i]? = some y->zm x=zm y) (h:(za S).ret f bs r outs):(za S).ret f as r outs:=by
 intro g hg;intro A w vs ι hl hA hι hJ ha;have ho:∀ (i:Nat) (x y:AV),as[i]? = some x->bs[i]? = some y->zm y=true->x=y:=fun i x y hx hy h=>wk_own (hp.2 i x y hx hy) h;refine (h g hg A w vs ι (by rw[hl,hp.1]) hA ⟨fun i b hb=>by rw[← hp.1];exact hι.1 i b hb,hι.2⟩ hJ fun i y hy => ?_).mono ?_
 ·obtain ⟨x,hx⟩:=zu hp.1 hy;have h1:=ha i x hx;cases hq:zm y with
  | true=>rw[← ho i x y hx hy hq];exact h1
  | false =>obtain ⟨k1,k2⟩:=wn h1 ((hn i x y hx hy).trans hq);rw[k1];exact qM (k2.wk (hp.2 i x y hx hy))
 ·rintro e w' ⟨v,he,hk,hj,β,hβ,aA,hT,hr⟩;refine ⟨v,he,hk,hj,β,hβ,aA,fun i es z bf hm hx => ?_,hr⟩;have aq:i < bs.length:=by rw[← hp.1];exact (Aa.1 hx).1
  have hy:=Ac aq;have h1:=hn i _ _ hx hy;have h2:=ho i _ _ hx hy h1.symm;exact hT i es z bf hm (by rw[hy,← h2])
def retK_wk {f:Nat} {as bs:List AV} (hp:PK as bs) (hn:∀ (i:Nat) (x y:AV),as[i]? = some x->bs[i]? = some y->zm x=zm y):∀ (ks:List Nat) (sh:Sh) (y:sh.den),(∀ l R,sh≠.tp [.tp l,R])->zjn S f bs ks sh y->zjn S f as ks sh y
 | [],_,_,_,h=>zhS hp hn h
 | [i],sh,y,hs,h=>by
  by_cases ho:∃ t,sh=.own t
  ·obtain ⟨t,rfl⟩:=ho;exact zhS hp hn h
  ·unfold zjn;split
   all_goals first | contradiction | exact absurd rfl (hs _ _) | exact absurd ⟨_,rfl⟩ ho | trivial
 | [_,_],sh,y,hs,_=>by
  unfold zjn;split
  all_goals first | contradiction | exact absurd rfl (hs _ _) | exact absurd ‹[_,_]=[_]› (by simp) | trivial
 | _ :: _ :: _ :: _,sh,y,_,_=>by cases sh<;>trivial
def oA {t:Ty} (ht:Sh.flat (.st t)=true) (x:t.den):(t.cells x).all AV.plain1=true:=by cases t<;>first | rfl | (simp[Sh.flat] at ht;done)
def zhf {sh:Sh} (h:sh.flat=true) (x:sh.den):(encA sh x).plain2=true:=by
 cases sh with
 | err=>cases x<;>rfl
 | st t=>exact oA h x
 | int=>rfl
 | u8=>rfl
 | bool=>rfl
 | str=>rfl
 | _=>simp[Sh.flat] at h
def zcZ {P:AV->Bool}:∀ {l:List Sh} (x:Sh.denL l),(∀ sh∈l,∀ y:sh.den,P (encA sh y)=true)->(encAL l x).all P=true
 | [],_,_=>rfl
 | [sh],x,h=>by simp only[encAL,AR,all_nil,Ce];exact h sh (by simp) x
 | sh :: bt :: l,x,h=>by
  simp only[encAL,AR,Ak];refine ⟨h sh (by simp) _, ?_⟩;have:=zcZ (P:=P) (l:=bt :: l) x.2 fun sh hs=>h sh (Ad _ hs);exact this
def plain_ok {sh:Sh} (h:sh.plain=true) (x:sh.den):(encA sh x).plain=true:=by
 cases sh with
 | tp l =>simp only[Sh.plain] at h;exact zcZ x fun sh hs y=>zhf (Af.1 h sh hs) y
 | unit=>rfl
 | err=>cases x<;>rfl
 | st t=>exact oA h x
 | int=>rfl
 | u8=>rfl
 | bool=>rfl
 | str=>rfl
 | _=>simp[Sh.plain,Sh.flat] at h
def zbX {sh:Sh} (bC:∀ t,sh≠.own t) (mj:∀ f l,sh≠.fnc f l) (ew:∀ l,sh≠.tp l) (hnu:sh≠.unit) (x:sh.den) (h:THp):lv2 h (enc sh x)=enc sh x∧av2 h (enc sh x)=encA sh x∧(∀ y∈qW (enc sh x),rf1 y=[]):=by
 cases sh with
 | own t=>exact absurd rfl (bC t)
 | fnc f l=>exact absurd rfl (mj f l)
 | tp l=>exact absurd rfl (ew l)
 | unit=>exact absurd rfl hnu
 | err=>exact ⟨rfl,rfl,by simp[enc,qW,rf1]⟩
 | st t =>obtain ⟨t1,t2⟩:=zbE t x h;refine ⟨mk_ag fun y hy=>j7 (t2 y hy).1, ?_,fun y hy=>(t2 y hy).1.1⟩;simp only[enc,av2,encA,t1]
 | ns t=>cases x<;>exact ⟨rfl,rfl,by simp[enc,qW,rf1]⟩
 | _=>exact ⟨rfl,rfl,by simp[enc,qW,rf1]⟩
def zi5 {d' n m:Nat} {t:Ty} {xs:List t.den} (hf:dF d n s=true) (ah:d'≠d):dF d n (s.push [(d',.row m t xs)])=true:=by simp only[dF,jy,TSt.push,As,AA,zf,if_neg ah,AR,A4] at hf ⊢;exact hf
def zie (h:THp):∀ (l:List Sh) (x:Sh.denL l),(l.all fun x=>x.ans1 && !x.own1)=true->(∀ y∈jE l x,zy h y=true)∧(jE l x).map (A2 h)=encAL l x∧(encAL l x).all (fun x => !zm x)=true:=by
 have two:∀ (sh:Sh) (x:sh.den),(sh.ans1 && !sh.own1)=true->zy h (enc sh x)=true∧A2 h (enc sh x)=encA sh x∧zm (encA sh x)=false:=by
  intro sh x h0;simp only[Ak,AJ] at h0;have g:(∀ t,sh≠.own t)∧(∀ f l,sh≠.fnc f l)∧(∀ l,sh≠.tp l)∧sh≠.unit:=(by refine ⟨fun t e => ?_,fun f l e => ?_,fun l e => ?_,fun e => ?_⟩<;>(subst e;first | (simp[Sh.own1] at h0;done) | (simp[Sh.ans1] at h0;done)))
  obtain ⟨e1,e2,_⟩:=zbX g.1 g.2.1 g.2.2.1 g.2.2.2 x h;refine ⟨by rw[← e1];exact jM _ _,by rw[A2,e1,e2], ?_⟩;cases sh with
  | own t=>exact absurd rfl (g.1 t)
  | err=>cases x<;>rfl
  | ns t=>cases x<;>rfl
  | _=>rfl
 intro l
 induction l with
 | nil=>intro x _;exact ⟨by simp[jE],rfl,rfl⟩
 | cons sh l ih =>
  intro x hl;simp only[AR,Ak] at hl;cases l with
  | nil =>obtain ⟨k1,k2,k3⟩:=two sh x (by simpa using hl.1);exact ⟨by simp[jE,k1],by simp[jE,encAL,k2],by simp[encAL,k3]⟩
  | cons bt l =>
   obtain ⟨k1,k2,k3⟩:=two sh x.1 (by simpa using hl.1);obtain ⟨m1,m2,m3⟩:=ih x.2 (by simpa using hl.2);refine ⟨fun y hy => ?_,by simp only[jE,encAL,An,k2,m2],by simp only[encAL,AR,k3,m3];rfl⟩;simp only[jE] at hy;rcases Aq.1 hy with rfl | hy
   ·exact k1
   ·exact m1 y hy
def opnL_ok:∀ (l:List Sh) (i:Nat) (x:Sh.denL l) {s:TSt} {n:Nat} {ys:List TV} {hs:THp},l.all Sh.ans1=true->zfJ s n d i l x=some (ys,hs) ->
  ∃ zs,zbR d i (encAL l x) s.toA=some (zs,(s.push hs).toA)∧zs=ys.map (A2 (hs++s.hp))∧(∀ y∈ys,zy (hs++s.hp) y=true)∧(∀ r,(∀ j,r≠d+10000 * (i+1+j))->look r .gone (hs++s.hp)=look r .gone s.hp):=by
 have one:∀ (sh:Sh) (x:sh.den) (i:Nat) {s:TSt} {n:Nat},sh.ans1=true->(∀ t,sh≠.own t)->(∀ (r:List AV),zbR d i (encA sh x :: r) s.toA=match zbR d (i+1) r s.toA with | some (ys,aa)=>some (encA sh x :: ys,aa) | none=>none):=by
  intro sh x i s n h1 h2 r;cases sh with
  | own t=>exact absurd rfl (h2 t)
  | ns t=>cases x<;>rfl
  | err=>cases x<;>rfl
  | _=>rfl
 have good:∀ (sh:Sh),sh.ans1=true->(∀ f l,sh≠.fnc f l)∧(∀ l,sh≠.tp l)∧sh≠.unit:=(by intro sh h;refine ⟨fun f l e => ?_,fun l e => ?_,fun e => ?_⟩<;>(subst e;simp[Sh.ans1] at h))
 have nonown:∀ (sh:Sh) (x:sh.den) (hp:THp),sh.ans1=true->(∀ t,sh≠.own t)->A2 hp (enc sh x)=encA sh x∧zy hp (enc sh x)=true:=(by intro sh x hp h1 h2;obtain ⟨g1,g2,g3⟩:=good sh h1;obtain ⟨e1,e2,_⟩:=zbX h2 g1 g2 g3 x hp;refine ⟨by rw[A2,e1,e2],by rw[← e1];exact jM _ _⟩);intro l
 induction l with
 | nil =>intro i x s n ys hs _ h;simp only[zfJ,Option.some.injEq,Prod.mk.injEq] at h;obtain ⟨rfl,rfl⟩:=h;exact ⟨[],rfl,rfl,by simp,fun r _=>rfl⟩
 | cons sh l ih =>
  intro i x s n ys hs hall h;simp only[AR,Ak] at hall;by_cases ho:∃ t,sh=.own t
  ·obtain ⟨t,rfl⟩:=ho;cases l with
   | nil =>
    simp only[zfJ] at h;split at h
    ·rename_i hf;simp only[Option.some.injEq,Prod.mk.injEq] at h;obtain ⟨rfl,rfl⟩:=h;obtain ⟨f0,f1⟩:=wg hf;have e:=jj (s:=s) (d:=d+10000 * (i+1)) (b:=.row n t x) (.newR f0) fun _=>by rw[qu (zaA _ n t .int _ [])];exact f1
     have hl:look (d+10000 * (i+1)) .gone ((d+10000 * (i+1),TB.row n t x) :: s.hp)=.row n t x:=by rw[zf,if_pos rfl]
     refine ⟨[.lsl (d+10000 * (i+1)) t.z 0 x.length], ?_, ?_, ?_,fun r hr => ?_⟩
     ·simp only[encAL,encA,zbR];have e0:s.toA.hp (d+10000 * (i+1))=none:=by rw[zN,f0];rfl
      simp only[e0,e,Ar];rfl
     ·simp only[An,A3,As,AA];rw[jB rfl,A1];simp only[lv1,hl,AG,av1]
     ·intro y hy;simp only[Ai] at hy;subst hy;simp only[As,AA,zy,ze,hl,AG]
     ·simp only[As,AA,zf];rw[if_neg];exact fun e=>hr 0 (by omega)
    ·cases h
   | cons bt l =>
    simp only[zfJ] at h;split at h
    ·rename_i bH ae hf aP;simp only[Option.some.injEq,Prod.mk.injEq] at h;obtain ⟨rfl,rfl⟩:=h;obtain ⟨f0,f1⟩:=wg hf;have e:=jj (s:=s) (d:=d+10000 * (i+1)) (b:=.row n t x.1) (.newR f0) fun _=>by rw[qu (zaA _ n t .int _ [])];exact f1
     -- the rest,behind this row
     have mono:∀ (l:List Sh) (i':Nat) (x':Sh.denL l) (ys:List TV) (hs:THp),i < i'->zfJ s n d i' l x'=some (ys,hs)->zfJ (s.push [(d+10000 * (i+1),.row n t x.1)]) n d i' l x'=some (ys,hs):=by
      intro l
      induction l with
      | nil=>intro i' x' ys hs _ h;exact h
      | cons sh l ihl =>
       intro i' x' ys hs hi h;have cO:∀ {b},dF (d+10000 * (i'+1)) n s=b->b=true->dF (d+10000 * (i'+1)) n (s.push [(d+10000 * (i+1),.row n t x.1)])=true:=fun h hb=>(by subst hb;exact zi5 h (by omega));by_cases ho:∃ t,sh=.own t
       ·obtain ⟨t',rfl⟩:=ho;cases l with
        | nil =>
         simp only[zfJ] at h ⊢;split at h
         ·rename_i hb;rw[cO hb rfl];exact h
         ·cases h
        | cons bt l =>
         simp only[zfJ] at h ⊢;split at h
         ·rename_i bH ae hb aP;rw[cO hb rfl,ihl (i'+1) _ _ _ (by omega) aP];exact h
         ·cases h
       ·cases l with
        | nil=>cases sh with
         | own t=>exact absurd ⟨t,rfl⟩ ho
         | _=>exact h
        | cons bt l =>
         cases sh with
         | own t=>exact absurd ⟨t,rfl⟩ ho
         | _ =>
          simp only[zfJ] at h ⊢;split at h
          ·rename_i bH ae aP;rw[ihl (i'+1) _ _ _ (by omega) aP];exact h
          ·cases h
     have iO:=mono (bt :: l) (i+1) x.2 bH ae (by omega) aP;obtain ⟨zs,k1,k2,k3,k4⟩:=ih (i+1) x.2 hall.2 iO;have hpe:ae++(s.push [(d+10000 * (i+1),.row n t x.1)]).hp=(ae++[(d+10000 * (i+1),.row n t x.1)])++s.hp:=by simp[TSt.push]
     rw[hpe] at k2 k3 k4;have hl:look (d+10000 * (i+1)) .gone ((ae++[(d+10000 * (i+1),.row n t x.1)])++s.hp)=.row n t x.1:=(by rw[k4 _ (fun j=>by omega)];simp only[TSt.push,As,AA,zf,if_true]);refine ⟨.lsl (d+10000 * (i+1)) t.z 0 (List.length x.1) :: zs, ?_, ?_, ?_,fun r hr => ?_⟩
     ·simp only[encAL,encA,zbR];have e0:s.toA.hp (d+10000 * (i+1))=none:=by rw[zN,f0];rfl
      have e':s.toA.setH (d+10000 * (i+1)) (some (.arr t.z (List.map t.cells x.1)))=(s.push [(d+10000 * (i+1),.row n t x.1)]).toA:=by rw[e];rfl
      simp only[e0,e',k1,Ar,qx]
     ·simp only[An,← k2];rw[jB rfl,A1];simp only[lv1,hl,AG,av1]
     ·intro y hy;rcases Aq.1 hy with rfl | hy
      ·simp only[zy,ze,hl,AG]
      ·exact k3 y hy
     ·rw[k4 r fun j e=>hr (j+1) (by omega)];simp only[TSt.push,As,AA,zf];rw[if_neg];exact fun e=>hr 0 (by omega)
    ·cases h
  ·have bC:∀ t,sh≠.own t:=fun t e=>ho ⟨t,e⟩;cases l with
   | nil =>
    have h':some ([enc sh x],([]:THp))=some (ys,hs):=by
     cases sh with
     | own t=>exact absurd rfl (bC t)
     | _=>exact h
    simp only[Option.some.injEq,Prod.mk.injEq] at h';obtain ⟨rfl,rfl⟩:=h';obtain ⟨n1,n2⟩:=nonown sh x s.hp hall.1 bC;refine ⟨[encA sh x], ?_,by simp[n1],by simp[n2],fun r _=>rfl⟩;simp only[encAL];rw[one sh x i hall.1 bC (s:=s) (n:=0)];rfl
   | cons bt l =>
    have h':(match zfJ s n d (i+1) (bt :: l) x.2 with | some (ys,hs)=>some (enc sh x.1 :: ys,hs) | none=>none)=some (ys,hs):=by
     cases sh with
     | own t=>exact absurd rfl (bC t)
     | _=>exact h
    split at h'
    ·rename_i bH ae aP;simp only[Option.some.injEq,Prod.mk.injEq] at h';obtain ⟨rfl,rfl⟩:=h';obtain ⟨zs,k1,k2,k3,k4⟩:=ih (i+1) x.2 hall.2 aP;obtain ⟨n1,n2⟩:=nonown sh x.1 (ae++s.hp) hall.1 bC;refine ⟨encA sh x.1 :: zs, ?_,by simp[n1,k2], ?_,fun r hr=>k4 r fun j e=>hr (j+1) (by omega)⟩
     ·simp only[encAL];rw[one sh x.1 i hall.1 bC (s:=s) (n:=0),k1]
     ·intro y hy;rcases Aq.1 hy with rfl | hy
      ·exact n2
      ·exact k3 y hy
    ·cases h'
def opn_ok {sh:Sh} {x:sh.den} {n:Nat} {v:TV} {hs:THp} (ha:sh.ansC=true) (h:opn s n d sh x=some (v,hs)):imp d (encA sh x) s.toA=some (Av (hs++s.hp) v,(s.push hs).toA):=by
 have other:(∀ t,sh≠.own t)->(∀ f l,sh≠.fnc f l)->(∀ l,sh≠.tp l)->sh≠.unit->v=enc sh x∧hs=[]->imp d (encA sh x) s.toA=some (Av (hs++s.hp) v,(s.push hs).toA):=by
  rintro h1 h2 h3 h4 ⟨rfl,rfl⟩;obtain ⟨e1,e2,_⟩:=zbX h1 h2 h3 h4 x s.hp;have e3:Av s.hp (enc sh x)=encA sh x:=by
   rw[jA (zcI e1),← e2];cases he:enc sh x with
   | tp=>rw[he] at e1;simp[lv2,lv1] at e1
   | fn=>rw[he] at e1;simp[lv2,lv1] at e1
   | _=>rfl
  simp only[AA,e3,yC];cases sh with
  | own t=>exact absurd rfl (h1 t)
  | fnc f l=>exact absurd rfl (h2 f l)
  | tp l=>exact absurd rfl (h3 l)
  | unit=>exact absurd rfl h4
  | err=>cases x<;>rfl
  | ns t=>cases x<;>rfl
  | _=>rfl
 cases sh with
 | own t =>
  simp only[opn] at h;split at h
  ·rename_i hf;simp only[Option.some.injEq,Prod.mk.injEq] at h;obtain ⟨rfl,rfl⟩:=h;obtain ⟨f0,f1⟩:=wg hf;have e:=jj (s:=s) (d:=d) (b:=.row n t x) (.newR f0) fun _=>by rw[qu (zaA _ n t .int _ [])];exact f1
   have e0:s.toA.hp d=none:=by rw[zN,f0];rfl
   have e3:=zgy (s:=s) (n:=n) (d':=d) (t:=t) (xs:=x);simp only[encA,imp,e0,Ar,As,AA,e3,e];rfl
  ·cases h
 | tp l =>
  simp only[opn] at h;split at h
  ·rename_i ys ae aP;simp only[Option.some.injEq,Prod.mk.injEq] at h;obtain ⟨rfl,rfl⟩:=h;obtain ⟨zs,k1,k2,k3,_⟩:=opnL_ok l 0 x ha aP;simp only[encA,imp,k1];rw[dC,if_pos (Af.2 k3),k2]
  ·cases h
 | unit=>simp only[opn,Option.some.injEq,Prod.mk.injEq] at h;obtain ⟨rfl,rfl⟩:=h;rfl
 | fnc f l =>simp only[opn,Option.some.injEq,Prod.mk.injEq] at h;obtain ⟨rfl,rfl⟩:=h;obtain ⟨k1,k2,_⟩:=zie ([]++s.hp) l x ha;simp only[encA,enc,imp];rw[zaH,if_pos (Af.2 k1),k2,yC]
 | _=>simp only[opn,Option.some.injEq,Prod.mk.injEq] at h;exact other (by simp) (by simp) (by simp) (by simp) ⟨h.1.symm,h.2.symm⟩
def nZ {sh:Sh} (h:sh.owns=false) (x:sh.den):fV (encA sh x)=true:=by
 have one:∀ (sh:Sh),sh.own1=false->∀ x:sh.den,(!zm (encA sh x))=true:=by
  intro sh h x;cases sh with
  | own t=>simp[Sh.own1] at h
  | err=>cases x<;>rfl
  | ns t=>cases x<;>rfl
  | _=>rfl
 cases sh with
 | own t=>simp[Sh.owns] at h
 | tp l=>exact zcZ x fun sh hs y=>one sh (wV h sh hs) y
 | err=>cases x<;>rfl
 | ns t=>cases x<;>rfl
 | _=>rfl
def noOwn_hs {sh:Sh} {x:sh.den} {n:Nat} {v:TV} {hs:THp} (ho:sh.owns=false) (h:opn s n d sh x=some (v,hs)):(s.push hs).toA=s.toA:=by
 have nil:hs=[]:=by
  cases sh with
  | own t=>simp[Sh.owns] at ho
  | tp l =>
   simp only[opn] at h;split at h
   ·rename_i ys ae aP;simp only[Option.some.injEq,Prod.mk.injEq] at h;obtain ⟨rfl,rfl⟩:=h;have:∀ (l:List Sh) (i:Nat) (x:Sh.denL l) (ys:List TV) (hs:THp),l.any Sh.own1=false->zfJ s n d i l x=some (ys,hs)->hs=[]:=by
     intro l
     induction l with
     | nil=>intro i x ys hs _ h;simp only[zfJ,Option.some.injEq,Prod.mk.injEq] at h;exact h.2.symm
     | cons sh l ih =>
      intro i x ys hs ho h;simp only[Cz,BK] at ho;cases l with
      | nil=>cases sh with
       | own t=>simp[Sh.own1] at ho
       | _=>simp only[zfJ,Option.some.injEq,Prod.mk.injEq] at h;exact h.2.symm
      | cons bt l =>
       cases sh with
       | own t=>simp[Sh.own1] at ho
       | _ =>
        simp only[zfJ] at h;split at h
        ·rename_i bH ae aP;simp only[Option.some.injEq,Prod.mk.injEq] at h;rw[← h.2];exact ih (i+1) _ _ _ ho.2 aP
        ·cases h
    exact this l 0 x _ _ ho aP
   ·cases h
  | _=>simp only[opn,Option.some.injEq,Prod.mk.injEq] at h;exact h.2.symm
 subst nil;rfl
def fC (S:Seat) (q frz:Bool) (f:Nat) (vs:List TV) (d:Nat) (s:TSt) (a:AV) (st1:ASt):Prop :=
 if q=true then st1=s.toA∧zfl (za S) f (vs.map (av s.hp)) s.toA a else yP (za S) frz [] f (vs.map (av s.hp)) d s.toA a st1
def yO {h:THp} {sh:Sh} {v:TV} {x:sh.den} (hd:dec h sh v=some x):zm (encA sh x)=false:=by
 cases sh with
 | own t=>simp[dec] at hd
 | err=>cases x<;>rfl
 | ns t=>cases x<;>rfl
 | _=>rfl
def zbt {h:THp}:∀ {l:List Sh} {vs:List TV} {x:Sh.denL l},wy h l vs=some x->∀ y∈encAL l x,zm y=false
 | [],[],_,_,y,hy=>by simp[encAL] at hy
 | [],_ :: _,_,hd,_,_=>by simp[wy] at hd
 | [sh],[],_,hd,_,_=>by simp[wy] at hd
 | [sh],[v],x,hd,y,hy=>by
  simp only[wy] at hd;simp only[encAL,Ai] at hy;subst hy;exact yO hd
 | [sh],_ :: _ :: _,_,hd,_,_=>by simp[wy] at hd
 | sh :: bt :: l,[],_,hd,_,_=>by simp[wy] at hd
 | sh :: bt :: l,v :: vs,x,hd,y,hy=>by
  simp only[wy] at hd;split at hd
  ·rename_i a b h1 h2;cases hd;simp only[encAL] at hy;rcases Aq.1 hy with rfl | hy
   ·exact yO h1
   ·exact zbt h2 y hy
  ·cases hd
def ansT_ok {frz:Bool} {f:Nat} {c:CSpec} {x:Sh.denL c.sig} {vs:List TV} (hC:∀ x y,c.fn x=some y->(za S).ret c.f (encAL c.sig x) (encA c.res y) []) (hf:c.f=f) (hl:∀ v∈vs,lv s.hp v=v) (hd:wy s.hp c.sig vs=some x)
  (hp:c.res.plain=true∨vs.flatMap rf=[]) (h:ansT q c d s x k=some r):∃ v hs a st1,k v hs=some r∧fC S q frz f vs d s a st1∧∀ dst:Option Nat,st1.putO dst a=((s.push hs).putO dst v).toA:=by
 unfold ansT at h;split at h
 ·cases h
 ·rename_i aw;simp only[BK,Bool.not_eq_false'] at aw;obtain ⟨ho,ha⟩:=aw;have main:∀ y,c.fn x=some y->(match opn s s.ctr d c.res y with | some (v,hs)=>k v hs | none=>none)=some r->∃ v hs a st1,k v hs=some r∧fC S q frz f vs d s a st1∧∀ dst:Option Nat,st1.putO dst a=((s.push hs).putO dst v).toA:=by
   intro y hy h;split at h
   ·rename_i v hs cx;have himp:=opn_ok ha cx;obtain ⟨as,h1,h2⟩:=zho hl hd;have aH:(za S).ret f as (encA c.res y) []:=(by rw[← hf];refine zhS h2 (fun i a b ha hb => ?_) (hC x y hy);rw[zbt hd b (Ae hb)];obtain ⟨x0,_,aC⟩:=(zk h1).2 i a ha;exact jP aC);have hrefs:vs.flatMap rf=[]->AV.refsL (vs.map (av s.hp))=[]:=fun hv=>(by refine Ax.2 fun r0 dN => ?_;obtain ⟨_,m1,m2⟩:=zd.1 dN;obtain ⟨v0,e7,rfl⟩:=Ap.1 m1;rw[zao (hl v0 e7) (A7.1 hv v0 e7)] at m2;cases m2);have dM:(encA c.res y).plain=true∨AV.refsL (vs.map (av s.hp))=[]:=hp.imp (fun h=>plain_ok h y) hrefs;have fK:zG s.toA.hp [] 0 (vs.map (av s.hp))=some as:=by rw[yk];exact h1
    cases hq:q with
    | true =>
     rw[hq,A4] at ho;have e:=noOwn_hs ho cx;rw[e,kK (nZ ho y)] at himp;simp only[Option.some.injEq,Prod.mk.injEq] at himp;refine ⟨v,hs,encA c.res y,s.toA,h, ?_,fun dst => ?_⟩
     ·unfold fC;rw[if_pos rfl];exact ⟨rfl,as,fK,aH,dM,nZ ho y⟩
     ·rw[qj,e,himp.1];rfl
    | false =>
     refine ⟨v,hs,_,_,h, ?_,fun dst=>(qj _ dst v).symm⟩;unfold fC;rw[if_neg (by simp)];refine ⟨as,encA c.res y,[],s.toA,s.toA,fK,by rw[zbO];first | done | rfl,aH, ?_,⟨by rw[qX];rfl,rfl,by rw[qX];rfl⟩,by rw[qX];exact himp⟩
     simp only[settle,Bm,if_true];rw[if_pos dM]
   ·cases h
  split at h
  ·split at h
   ·rename_i y hy;exact main y hy h
   ·cases h
  ·obtain ⟨y,hy,h⟩:=jo h;exact main y hy h
def zci {q2 fz frz:Bool} (h2:fz=true->q2=q) {f:Nat} {args:TSt->List TV} {o:AOp}:∀ {C:List CSpec},zW S C->(∀ s':TSt,(s'=s∨(fz=true∧∃ h1,s'=s.push h1))->(∀ v∈args s',lv s'.hp v=v)∧∀ a st1,fC S q frz f (args s') d s' a st1->qR (za S) q2 o d s'.toA a st1) ->
  fg C q fz f args d s k=some r->∃ v hs,k v hs=some r∧zV S q2 o d s v hs
 | [],_,_,h=>by cases h
 | c :: C,hC,hA,h=>by
  have rest:fg C q fz f args d s k=some r->∃ v hs,k v hs=some r∧zV S q2 o d s v hs:=zci h2 (fun c hc=>hC c (Ad _ hc)) hA;unfold fg at h;split at h
  ·exact rest h
  ·rename_i hb;obtain ⟨hb,dj⟩:=Au.1 hb;rw[zB] at hb;have pj:∀ x y,c.fn x=some y->(za S).ret c.f (encAL c.sig x) (encA c.res y) []:=fun x y hy=>(by have:=hC c Ah x y hy;rw[Bt.1 dj] at this;exact this);split at h
   ·exact rest h
   ·rename_i x hx;split at h
    ·rename_i aw;obtain ⟨v,hs,a,st1,k1,k2,k3⟩:=ansT_ok (S:=S) (frz:=frz) pj hb (hA s (.inl rfl)).1 hx (by simpa only[BS,Bt] using aw) h;exact ⟨v,hs,k1,[],a,st1,.inl rfl,(hA s (.inl rfl)).2 a st1 k2,fun dst=>.inl (k3 dst)⟩
    ·split at h
     ·cases h
     ·rename_i hq;simp only[BK,Bool.not_eq_false'] at hq;split at h
      ·cases h
      ·rename_i h1 hfz;split at h
       ·rename_i x' bg hem;have ku:=hA (s.push h1) (.inr ⟨hq.2,h1,rfl⟩);obtain ⟨v,hs,a,st1,k1,k2,k3⟩:=ansT_ok (S:=S) (frz:=frz) pj hb ku.1 bg (.inr (Bt.1 hem)) h;have st:zV S q2 o d (s.push h1) v hs:=⟨[],a,st1,.inl rfl,ku.2 a st1 k2,fun dst=>.inl (k3 dst)⟩;exact ⟨v,_,k1,st.pre ((h2 hq.2).trans hq.1) (zay _ _ _ hfz)⟩
       ·cases h
def zdP {hp:Nat->Option Blk} {x a:AV} (hr:x.refs=[]) (h:qn hp x=some a):a=x:=by
 cases x with
 | pe=>simp[AV.refs] at hr
 | lsl=>simp[AV.refs] at hr
 | own=>simp[qn] at h
 | _=>simp only[qn,hr,Bm,if_true,Option.some.injEq] at h;exact h.symm
def yZ {f:AV->Option AV}:∀ {l as:List AV},(∀ x∈l,∀ a,f x=some a->a=x)->zb f l=some as->as=l
 | [],as,_,h=>by simp only[zb,Option.some.injEq] at h;exact h.symm
 | x :: l,as,hx,h=>by
  simp only[zb] at h;split at h
  ·rename_i y ys h1 h2;cases h;rw[hx x Ah y h1,yZ (fun x hm=>hx x (Ad _ hm)) h2]
  ·cases h
def zdT {cs:List AV} (h:AV.refsL cs=[]):∀ x∈cs,x.refs=[]:=fun x hx=>Ax.2 fun s hs=>by
 have:=zd.2 ⟨x,hx,hs⟩;rw[h] at this;cases this
def zdO {hp:Nat->Option Blk} {x a:AV} (hr:x.refs=[]) (h:qm hp x=some a):a=x:=by
 cases x with
 | pv=>simp[AV.refs] at hr
 | agg cs =>
  simp only[qm] at h;split at h
  ·rename_i an aj;cases h;rw[AV.refs] at hr;rw[yZ (fun x hx a ha=>zdP (zdT hr x hx) ha) aj]
  ·cases h
 | _=>simp only[qm] at h;exact zdP hr h
def wB {hp:Nat->Option Blk} {x a:AV} (hr:x.refs=[]) (h:wx hp x=some a):a=x:=by
 have lst:∀ {cs an:List AV},AV.refsL cs=[]->zb (qm hp) cs=some an->an=cs:=fun hr aj=>yZ (fun x hx a ha=>zdO (zdT hr x hx) ha) aj;cases x with
 | fn f cs =>
  simp only[wx] at h;split at h
  ·rename_i an aj;cases h;rw[AV.refs] at hr;rw[lst hr aj]
  ·cases h
 | tup cs =>
  simp only[wx] at h;split at h
  ·rename_i an aj;cases h;rw[AV.refs] at hr;rw[lst hr aj]
  ·cases h
 | agg cs =>
  simp only[wx] at h;split at h
  ·rename_i an aj;cases h;rw[AV.refs] at hr;rw[lst hr aj]
  ·cases h
 | _=>simp only[wx] at h;exact zdO hr h
def fnOkT_ok {h:THp} {v:TV} (hl:lv h v=v) (hf:fnOkT h v=true):fnOk (hpA h) (av h v)=true:=by
 cases v with
 | fn f vs =>
  simp only[fnOkT] at hf;simp only[av,fnOk];refine Af.2 fun a ha => ?_;obtain ⟨y,hy,rfl⟩:=Ap.1 ha;have iG:=Af.1 hf y hy;by_cases hp:∃ s off,y=.pv s off
  ·obtain ⟨s,off,rfl⟩:=hp;simp only at iG;split at iG
   ·rename_i cs hq;have hb:hpA h s=some (.var (cs.map fun x=>av1 h (lv1 h x))):=by simp only[hpA,hq,blk]
    have e0:fh (hpA h) (av2 h (.pv s off))=((cs.map fun x=>av1 h (lv1 h x)).all fun c=>c.refs.isEmpty):=(by show fh (hpA h) (.pv s off)=_;simp only[fh,hb]);rw[e0];refine Af.2 fun c hc => ?_;obtain ⟨z,hz,rfl⟩:=Ap.1 hc;have cj:=Af.1 iG z hz;rw[zeq (h:=h) (by simpa using cj)];rfl
   ·cases iG
  ·have hr:rf2 y=[]:=by
    cases y with
    | pv s off=>exact absurd ⟨s,off,rfl⟩ hp
    | _=>simpa using iG
   have mb:=rf2_refs (h:=h) hr;have:∀ x:AV,x.refs=[]->fh (hpA h) x=true:=fun x hx=>by
    cases x with
    | pv s off=>simp[AV.refs] at hx
    | _=>simp[fh,hx]
   exact this _ mb
 | _=>simp[fnOkT] at hf
def decM1_ok {h:THp} {sm hd:Bool} {sh:Sh} {v:TV} {x:sh.den} (hl:lv h v=v) (hx:decM1 h sm hd sh v=some x) :
  (hd=true∧∃ s v' cZ t xs,v=.lw s v'∧look s .gone h=.row cZ t xs∧av h v=.lsl s t.z 0 (xs.map t.cells).length∧encA sh x=.own t.z (xs.map t.cells)) ∨
  (hd=false∧∃ a,((av h v).refs=[]∧a=av h v∨sm=true∧fnOk (hpA h) (av h v)=true∧(av h v).refs≠[]∧wx (hpA h) (av h v)=some a)∧Wk (fun _=>False) a (encA sh x)∧zm a=false∧zm (encA sh x)=false):=by
 by_cases ho:∃ t,sh=.own t
 ·obtain ⟨t,rfl⟩:=ho;simp only[decM1] at hx;split at hx
  ·rename_i s v';split at hx
   ·rename_i cZ t' xs hq;obtain ⟨rfl,rfl⟩:=zJ hx;exact .inl ⟨rfl,s,v',cZ,t',_,rfl,hq,by rw[dY hq,Ar],rfl⟩
   ·cases hx
  ·cases hx
 ·have bg:(match (generalizing:=false) hd,rf v with | false,[]=>dec h sh v | false,_ :: _=>(match (generalizing:=false) sm && fnOkT h v with | true=>dec h sh v | false=>none) | _,_=>none)=some x:=by
   cases sh with
   | own t=>exact absurd ⟨t,rfl⟩ ho
   | _=>exact hx
  split at bg
  ·rename_i hr;obtain ⟨a,k1,k2⟩:=zgf hl bg;have bI:=zao hl hr;have e:=wB bI k1;subst e;exact .inr ⟨rfl,_,.inl ⟨bI,rfl⟩,k2,jP k1,yO bg⟩
  ·split at bg
   ·rename_i hc;obtain ⟨c1,c2⟩:=Au.1 hc;obtain ⟨a,k1,k2⟩:=zgf hl bg;by_cases bI:(av h v).refs=[]
    ·have e:=wB bI k1;subst e;exact .inr ⟨rfl,_,.inl ⟨bI,rfl⟩,k2,jP k1,yO bg⟩
    ·exact .inr ⟨rfl,a,.inr ⟨c1,fnOkT_ok hl c2,bI,k1⟩,k2,jP k1,yO bg⟩
   ·cases bg
  ·cases bg
def decM_ok {h:THp} {muts:List Nat} (hm:muts.isEmpty=false):∀ {i:Nat} {l:List Sh} {vs:List TV} {x:Sh.denL l},(∀ v∈vs,lv h v=v)->decM h muts i l vs=some x ->
  ∃ as,zG (hpA h) muts i (vs.map (av h))=some as∧PK as (encAL l x)∧(∀ (j:Nat) (a b:AV),as[j]? = some a->(encAL l x)[j]? = some b->zm a=zm b) ∧
   zY muts i (vs.map (av h))=hsT muts i vs∧zx muts i (vs.map (av h))=esT muts i vs∧(∀ s∈hsT muts i vs,∃ v t xs,look s .gone h=.row v t xs)∧(∀ s∈esT muts i vs,s∈hsT muts i vs):=by
 have one:∀ {i:Nat} {sh:Sh} {v:TV} {x:sh.den} {rest:List AV} {as:List AV},lv h v=v->decM1 h (zaM muts) (zj muts i) sh v=some x->zG (hpA h) muts (i+1) rest=some as ->
   ∃ a,zG (hpA h) muts i (av h v :: rest)=some (a :: as)∧Wk (fun _=>False) a (encA sh x)∧zm a=zm (encA sh x)∧zY muts i (av h v :: rest)=yG (zj muts i) v++zY muts (i+1) rest ∧
    zx muts i (av h v :: rest)=yG (zj muts i && !muts.contains i) v++zx muts (i+1) rest∧(∀ s∈yG (zj muts i) v,∃ v t xs,look s .gone h=.row v t xs)∧(∀ s∈yG (zj muts i && !muts.contains i) v,s∈yG (zj muts i) v):=by
  intro i sh v x rest as hl hx cK;rcases decM1_ok hl hx with ⟨hh,s,v',cZ,t,xs,rfl,hq,e1,e2⟩ | ⟨hh,a,hr,hw,n1,n2⟩
  ·refine ⟨.own t.z (xs.map t.cells), ?_,by rw[e2];exact .rfl _,by rw[e2], ?_, ?_, ?_, ?_⟩
   ·rw[e1];have hb:hpA h s=some (.arr t.z (xs.map t.cells)):=by simp only[hpA,hq,blk]
    simp only[zG,hh,if_true,hb,and_self,cK]
   ·rw[e1];simp only[zY,hh,if_true,yG]
   ·rw[e1];simp only[zx,hh,A4];cases muts.contains i<;>rfl
   ·rw[hh];intro s' ae;simp only[yG,Ai] at ae;subst ae;exact ⟨_,_,_,hq⟩
   ·rw[hh];cases muts.contains i<;>simp[yG]
  ·have nl:∀ (l:List Nat),(match av h v with | .lsl s _ _ _=>[s] | _=>([]:List Nat))=l->True:=fun _ _=>trivial
   refine ⟨a, ?_,hw,n1.trans n2.symm, ?_, ?_, ?_, ?_⟩
   ·rcases hr with ⟨hr,rfl⟩ | ⟨r1,r2,r3,r4⟩
    ·simp only[zG,hh,hm,Am,if_false,hr,Bm,if_true,cK]
    ·have r3':(av h v).refs.isEmpty=false:=by
      cases hq:(av h v).refs.isEmpty with
      | false=>rfl
      | true=>exact absurd (by simpa using hq) r3
     simp only[zG,hh,hm,Am,if_false,r3',r1,r2,Cf,if_true,r4,cK]
   ·simp only[zY,hh,Am,if_false,yG]
   ·simp only[zx,hh,Cr,Am,if_false,yG]
   ·rw[hh];simp[yG]
   ·rw[hh];simp[yG]
 intro i l
 induction l generalizing i with
 | nil =>
  intro vs x _ hx;cases vs with
  | nil=>exact ⟨[],rfl,.nil,by simp,rfl,rfl,by simp[hsT],by simp[esT]⟩
  | cons=>simp[decM] at hx
 | cons sh l ih =>
  intro vs x hl hx;cases l with
  | nil =>
   match vs with
   | []=>simp[decM] at hx
   | [v] =>
    simp only[decM] at hx;obtain ⟨a,k1,k2,k3,k4,k5,k6,k7⟩:=one (hl v (by simp)) hx (rest:=[]) (as:=[]) rfl;refine ⟨[a],k1,.cons k2 .nil,fun j a' b ha hb => ?_,by simpa[zY,hsT] using k4,by simpa[zx,esT] using k5,by simpa[hsT] using k6,by simpa[hsT,esT] using k7⟩;cases j with
    | zero=>simp[encAL] at ha hb;subst ha;subst hb;exact k3
    | succ j=>simp at ha
   | _ :: _ :: _=>simp[decM] at hx
  | cons bt l =>
   cases vs with
   | nil=>simp[decM] at hx
   | cons v vs =>
    simp only[decM] at hx;split at hx
    ·rename_i a0 b0 h1 h2;cases hx;obtain ⟨as,m1,m2,m3,m4,m5,m6,m7⟩:=ih (fun v hv=>hl v (Ad _ hv)) h2;obtain ⟨a,k1,k2,k3,k4,k5,k6,k7⟩:=one (hl v (by simp)) h1 m1;refine ⟨a :: as,k1,.cons k2 m2,fun j a' b ha hb => ?_,by simp only[An,hsT];rw[k4,m4],by simp only[An,esT];rw[k5,m5],fun s hs => ?_,fun s hs => ?_⟩
     ·simp only[encAL] at hb;cases j with
      | zero=>simp at ha hb;subst ha;subst hb;exact k3
      | succ j=>simp only[AN] at ha hb;exact m3 j a' b ha hb
     ·simp only[hsT] at hs;exact (Ao.1 hs).elim (k6 s) (m6 s)
     ·simp only[hsT,esT] at hs ⊢;exact Ao.2 ((Ao.1 hs).imp (k7 s) (m7 s))
    ·cases hx
def n6 {muts:List Nat}:∀ (i:Nat) (vs:List TV),zC (hsT muts i vs)=true->zC (esT muts i vs)=true∧∀ s∈esT muts i vs,s∈hsT muts i vs
 | _,[],_=>⟨rfl,by simp[esT]⟩
 | i,v :: vs,h=>by
  simp only[hsT] at h;obtain ⟨n1,n2⟩:=jJ _ _ h;obtain ⟨k1,k2⟩:=n6 (i+1) vs n1;have sub:∀ s∈yG (zj muts i && !muts.contains i) v,s∈yG (zj muts i) v:=(by cases zj muts i<;>cases muts.contains i<;>simp[yG]);refine ⟨?_,fun s hs => ?_⟩
  ·simp only[esT];have aK:yG (zj muts i && !muts.contains i) v=[]∨∃ s,yG (zj muts i && !muts.contains i) v=[s]:=by
    unfold yG;split
    ·exact .inr ⟨_,rfl⟩
    ·exact .inl rfl
   rcases aK with e | ⟨s,e⟩
   ·rw[e];exact k1
   ·rw[e];simp only[As,AA,zC,k1,Ce,AJ,AP,decide_eq_false_iff_not];exact fun hm=>n2 s (sub s (by rw[e];simp)) (k2 s hm)
  ·simp only[hsT,esT] at hs ⊢;exact Ao.2 ((Ao.1 hs).imp (sub s) (k2 s))
def zat {a:Nat} {l:List Nat} (h:zC (a :: l)=true):a ∉ l∧zC l=true:=by simp only[zC,Ak,AJ,AP,decide_eq_false_iff_not] at h;exact h
def zcr:∀ (l:List Nat) (s:TSt),(∀ r∈l,∃ v t xs,look r .gone s.hp=.row v t xs)->zC l=true->(s.push (yM l)).toA=s.toA.dropL l
 | [],s,_,_=>rfl
 | r :: l,s,h,hn=>by
  obtain ⟨n1,n2⟩:=zat hn;obtain ⟨v,t,xs,h0⟩:=h r Ah;simp only[yM,ASt.dropL];rw[← qx,zcr l _ (fun r' bI => ?_) n2,toA_gone h0]
  ·rfl
  ·obtain ⟨v',t',xs',h1⟩:=h r' (Ad _ bI);refine ⟨v',t',xs', ?_⟩;simp only[TSt.push,As,AA,zf];rw[if_neg (by rintro rfl;exact n1 bI),h1]
def zcK:∀ (l:List Nat) (h:THp) (r:Nat),r ∉ l->look r .gone (yM l++h)=look r .gone h
 | [],h,r,_=>rfl
 | a :: l,h,r,hn=>by
  simp only[yM,AB,As,AA];rw[zcK l _ r (fun hm=>hn (Ad _ hm)),zf,if_neg (by rintro rfl;exact hn Ah)]
def drop_set {st:ASt} {r s0 z:Nat} {es:List (List AV)} (ah:s0≠r):(st.setH s0 (some (.arr z es))).drop r=(st.drop r).setH s0 (some (.arr z es)):=by
 simp only[ASt.drop,ASt.setH,ASt.scrub];congr 1;funext k;simp only[upd];by_cases h1:k=r
 ·subst h1;rw[if_pos rfl,if_neg (Ne.symm ah),if_pos rfl]
 ·rw[if_neg h1,if_neg h1];by_cases h2:k=s0
  ·rw[if_pos h2,if_pos h2];rfl
  ·rw[if_neg h2,if_neg h2]
def kG:∀ (l:List Nat) {st:ASt} {s0 z:Nat} {es:List (List AV)},s0 ∉ l->(st.setH s0 (some (.arr z es))).dropL l=(st.dropL l).setH s0 (some (.arr z es))
 | [],_,_,_,_,_=>rfl
 | r :: l,st,s0,z,es,hn=>by
  simp only[ASt.dropL];rw[drop_set (by rintro rfl;exact hn Ah),kG l fun hm=>hn (Ad _ hm)]
def setH_setH (st:ASt) (s:Nat) (a b:Option Blk):(st.setH s a).setH s b=st.setH s b:=by
 simp only[ASt.setH];congr 1;funext k;simp only[upd]
 split<;>rfl
def push_eat {s0:Nat} {rest:List Nat} {v n:Nat} {t t':Ty} {xs:List t.den} {ys:List t'.den} (h0:look s0 .gone s.hp=.row v t xs) (hf:jy s0 (.row n .int []) s=true) (hn:zC (s0 :: rest)=true)
  (hr:∀ r∈rest,∃ v t xs,look r .gone s.hp=.row v t xs):(s.push (yM rest++[(s0,.row n t' ys)])).toA=(s.toA.dropL (s0 :: rest)).setH s0 (some (.arr t'.z (ys.map t'.cells))):=by
 obtain ⟨n1,n2⟩:=zat hn;rw[← qx,zcr rest _ (fun r hm => ?_) n2,toA_app h0 hf,kG rest n1]
 ·simp only[ASt.dropL,ASt.drop];rw[← kG rest n1,← kG rest n1,setH_setH]
 ·obtain ⟨v',t',xs',h1⟩:=hr r hm;refine ⟨v',t',xs', ?_⟩;simp only[TSt.push,As,AA,zf];rw[if_neg (by rintro rfl;exact n1 hm),h1]
def zhT {h:THp} {muts:List Nat}:∀ (i:Nat) (vs:List TV),(∀ v∈vs,lv h v=v)->restM muts i vs=[]->zaC muts i (vs.map (av h))=[]
 | _,[],_,_=>rfl
 | i,v :: vs,hl,hr=>by
  simp only[restM,List.append_eq_nil_iff] at hr;have ih:=zhT (i+1) vs (fun v hv=>hl v (Ad _ hv)) hr.2;simp only[An,zaC,ih,BN];cases hh:zj muts i with
  | true=>rfl
  | false =>rw[hh] at hr;rw[if_neg (by simp)];exact zao (hl v Ah) hr.1
def zfX {muts:List Nat} (hm:muts.isEmpty=false) (hk:jc muts=[]):zaM muts=false:=by
 cases muts with
 | nil=>cases hm
 | cons a r =>
  cases hs:zaM (a :: r) with
  | false=>rfl
  | true =>have ha:Nat.blt a 1000=true:=Af.1 hs a Ah;simp only[jc,List.filter_cons,ha,if_true] at hk;cases hk
def finM_ok {muts:List Nat} {args:List TV} {f:Nat} {frz:Bool} {as:List AV} {sh:Sh} {y:sh.den} (hm:muts.isEmpty=false) (hl:∀ v∈args,lv s.hp v=v)
  (h1:zG s.toA.hp muts 0 (args.map (av s.hp))=some as) (h2:zY muts 0 (args.map (av s.hp))=hsT muts 0 args) (h3:zx muts 0 (args.map (av s.hp))=esT muts 0 args) (h4:∀ r∈hsT muts 0 args,∃ v t xs,look r .gone s.hp=.row v t xs)
  (hn:zC (hsT muts 0 args)=true) (hx:zbk (esT muts 0 args)=true) (nh:((restM muts 0 args).isEmpty || intOut sh)=true) (aH:zjn S f as (jc muts) sh y) (h:finM s muts args sh y k=some r) :
  ∃ v hs a st1,k v hs=some r∧yP (za S) frz muts f (args.map (av s.hp)) d s.toA a st1∧∀ dst:Option Nat,st1.putO dst a=((s.push hs).putO dst v).toA:=by
 have dM:∀ r0:AV,settle frz (if muts.isEmpty then AV.refsL (args.map (av s.hp)) else []) r0 s.toA=some s.toA:=(by intro r0;rw[hm];simp only[Am,if_false,settle,or_true,if_true])
 obtain ⟨e1,e2⟩:=n6 0 args hn;unfold finM at h;split at h
 ·rename_i i hk he;split at h
  ·rename_i s0 v0 ha;split at h
   ·rename_i v t xs hq;split at h
    ·rename_i t' ys;split at h
     ·rename_i bH hc;obtain ⟨rfl,rfl⟩:=zJ hc;obtain ⟨hlen,h⟩:=qg h;have hlen:=of_decide_eq_true hlen;rw[hk] at aH;have aH:(za S).ret f as (.tup []) [(i,List.map t'.cells bH)]:=aH;have il:zaf muts (args.map (av s.hp)) (.tup []) [(i,List.map t'.cells bH)]=true:=by
       rcases Bool.or_eq_true_iff.1 nh with q | q
       ·simp only[zaf,zhT (h:=s.hp) 0 args hl (by simpa using q),Bm,Bool.or_true,CF]
       ·have ht:t'=.int:=by cases t'<;>first | rfl | simp[intOut] at q
        subst ht;have:(List.map Ty.int.cells bH).all (fun e=>e.all AV.plain1)=true:=Af.2 fun e he=>(by obtain ⟨n,_,rfl⟩:=Ap.1 he;rfl);simp only[zaf,AV.plain,all_nil,AR,this,Cf,Bool.or_true]
      have nj:(args.map (av s.hp))[i]? = some (.lsl s0 t'.z 0 xs.length):=by rw[Aw,ha];simp only[AE,dY hq]
      have e:=jj (s:=s) (d:=s0) (b:=.row v t' bH) (.row hq hlen) (fun hg=>by rw[hq] at hg;cases hg);refine ⟨_,_,.tup [],(s.push [(s0,.row v t' bH)]).toA,h,⟨as,.tup [],[(i,List.map t'.cells bH)],s.toA,(s.push [(s0,.row v t' bH)]).toA,h1,by rw[h2];exact hn,aH,dM _,⟨by rw[h3];exact Au.2 ⟨hx,il⟩,by rw[hk];rfl, ?_⟩, ?_⟩,fun dst => ?_⟩
      ·rw[h3,he];simp only[ASt.dropL,yW,nj,zN,hq,blk,Ar];rw[if_pos hlen,e];simp only[blk]
      ·rw[h3,he];rfl
      ·rw[qj];rfl
     ·cases h
    ·cases h
   ·cases h
  ·cases h
 ·rename_i s0 rest hk he;split at h
  ·rename_i hc;obtain ⟨nc,eW⟩:=Au.1 hc;rw[he] at e1 e2;obtain ⟨v,t,xs,hq⟩:=h4 s0 (e2 s0 Ah);have cK:∀ r∈rest,∃ v t xs,look r .gone s.hp=.row v t xs:=fun r hr=>h4 r (e2 r (Ad _ hr));have hn1:=(zat e1).1;rw[hk] at aH;have lk:∀ (t':Ty) (ys:List t'.den),look s0 .gone ((yM rest++[(s0,TB.row s.ctr t' ys)])++s.hp)=.row s.ctr t' ys:=fun t' ys=>(by rw[AB,zcK rest _ _ hn1];simp only[As,AA,zf,if_true]);have gone:(s.toA.dropL (s0 :: rest)).hp s0=none:=oj _ Ah
   have fin:∀ (t':Ty) (ys:List t'.den) (r0 a:AV) (v:TV),(za S).ret f as r0 []->impE (s0 :: rest) d r0 (s.toA.dropL (s0 :: rest))=some (a,(s.toA.dropL (s0 :: rest)).setH s0 (some (.arr t'.z (ys.map t'.cells)))) ->
     Av ((yM rest++[(s0,TB.row s.ctr t' ys)])++s.hp) v=a->k v (yM rest++[(s0,TB.row s.ctr t' ys)])=some r ->
     ∃ v hs a st1,k v hs=some r∧yP (za S) frz muts f (args.map (av s.hp)) d s.toA a st1∧∀ dst:Option Nat,st1.putO dst a=((s.push hs).putO dst v).toA:=by
    intro t' ys r0 a v aH himp nj h;have e:=push_eat (t':=t') (ys:=ys) hq nc e1 cK;refine ⟨v,_,a,_,h,⟨as,r0,[],s.toA,s.toA.dropL (s0 :: rest),h1,by rw[h2];exact hn,aH,dM _,⟨by rw[h3];exact Au.2 ⟨hx,by simp only[zaf,zfX hm hk,BV,CF]⟩,by rw[hk];rfl,by rw[h3,he];rfl⟩,by rw[h3,he];exact himp⟩,fun dst => ?_⟩;rw[qj,e];rw[show Av (s.push (yM rest++[(s0,TB.row s.ctr t' ys)])).hp v=a from nj]
   split at h
   ·rename_i t' ys;refine fin t' ys _ (.lsl s0 t'.z 0 ys.length) _ aH ?_ ?_ h
    ·simp only[encA,impE,gone,Ar]
    ·rw[qC rfl,A1];simp only[lv1,lk,AG,av1]
   ·rename_i t' iD l ys;split at h
    ·rename_i hall;obtain ⟨m1,m2,m3⟩:=zie ((yM rest++[(s0,TB.row s.ctr t' ys.1)])++s.hp) (iD :: l) ys.2 hall;refine fin t' ys.1 _ (.tup (.lsl s0 t'.z 0 (List.length ys.1) :: encAL (iD :: l) ys.2)) _ aH ?_ ?_ h
     ·simp only[encA,encAL,impE,gone,Ar,m3,if_true]
     ·have l0:zy ((yM rest++[(s0,TB.row s.ctr t' ys.1)])++s.hp) (.lw s0 s.ctr)=true:=(by simp only[zy,ze,lk,AG]);have a0:A2 ((yM rest++[(s0,TB.row s.ctr t' ys.1)])++s.hp) (.lw s0 s.ctr)=.lsl s0 t'.z 0 (List.length ys.1):=(by rw[jB rfl,A1];simp only[lv1,lk,AG,av1]);rw[dC,if_pos (Af.2 fun y hy => ?_),An,a0,m2];rcases Aq.1 hy with rfl | hy
      ·exact l0
      ·exact m1 y hy
    ·cases h
   ·cases h
  ·cases h
 ·cases h
def finM_res {muts:List Nat} {args:List TV} {sh:Sh} {y:sh.den} (h:finM s muts args sh y k=some r) (l:List Sh) (R:Sh):sh≠.tp [.tp l,R]:=by
 rintro rfl;simp only[finM] at h
 repeat' split at h
 all_goals (first | cases h | (simp at h;done))
def zcV:∀ {a b:List Nat},eqN a b=true->a=b
 | [],[],_=>rfl
 | [],_ :: _,h=>by cases h
 | _ :: _,[],h=>by cases h
 | a :: r,b :: l,h=>by
  simp only[eqN,Ak] at h;rw[zB.1 h.1,zcV h.2]
def ziq {frz:Bool} {m:Nat} {ms:List Nat} {f:Nat} {args:List AOpd}:∀ {C:List CSpec},zW S C->zjf C (m :: ms) f (args.map s.ev) s k=some r->∃ v hs,k v hs=some r∧zV S q (.call frz (m :: ms) f args) d s v hs
 | [],_,h=>by cases h
 | c :: C,hC,h=>by
  have rest:zjf C (m :: ms) f (args.map s.ev) s k=some r->∃ v hs,k v hs=some r∧zV S q (.call frz (m :: ms) f args) d s v hs:=ziq fun c hc=>hC c (Ad _ hc);unfold zjf at h;split at h
  ·exact rest h
  ·rename_i hb;obtain ⟨hb,dj⟩:=Au.1 hb;rw[zB] at hb;obtain ⟨dj,fu⟩:=Au.1 dj;have dj:=zcV dj;split at h
   ·exact rest h
   ·rename_i x hx;split at h
    ·cases h
    ·rename_i aw;obtain ⟨aw,nh⟩:=Au.1 aw;obtain ⟨hn,dJ⟩:=Au.1 aw;have hl:∀ v∈args.map s.ev,lv s.hp v=v:=fun v hv=>by obtain ⟨y,_,rfl⟩:=Ap.1 hv;exact wl s y
     obtain ⟨as,k1,k2,k3,k4,k5,k6,k7⟩:=decM_ok (muts:=m :: ms) rfl hl hx;have fin:∀ y,c.fn x=some y->finM s (m :: ms) (args.map s.ev) c.res y k=some r->∃ v hs,k v hs=some r∧zV S q (.call frz (m :: ms) f args) d s v hs:=by
      intro y hy h;have aH:zjn S f as (jc (m :: ms)) c.res y:=(by have h0:=hC c Ah x y hy;rw[dj,hb,keptK_of fu] at h0;exact retK_wk k2 k3 _ _ _ (finM_res h) h0);obtain ⟨v,hs,a,st1,q1,q2,q3⟩:=finM_ok (S:=S) (frz:=frz) (d:=d) rfl hl k1 k4 k5 k6 hn dJ nh aH h;have e:(args.map s.ev).map (av s.hp)=args.map s.toA.ev:=by rw[AU];exact Al fun y _=>(zE s y).symm
      rw[e] at q2;refine ⟨v,hs,q1,[],a,st1,.inl rfl, ?_,fun dst=>.inl (q3 dst)⟩;simp only[qR];rw[if_neg (by simp)];exact q2
     split at h
     ·split at h
      ·rename_i y hy;exact fin y hy h
      ·cases h
     ·obtain ⟨y,hy,h⟩:=jo h;exact fin y hy h
def zbL {hp:Nat->Option Blk}:∀ (i:Nat) (l as:List AV),(∀ x∈l,x.refs=[])->zG hp [] i l=some as->zG hp [3000] i l=some as
 | _,[],as,_,h=>h
 | i,x :: r,as,hr,h=>by
  have hh:zj [] i=false:=by simp[zj]
  simp only[zG,zha,hh,Am,if_false,Bm,List.isEmpty_cons,if_true] at h ⊢;split at h
  ·rename_i y ys h1 h2;have hx:=hr x Ah;rw[wB hx h1] at h;rw[zbL (i+1) r ys (fun z hz=>hr z (Ad _ hz)) h2];simp only[hx,Bm,if_true];exact h
  ·cases h
def callR_new {M:Rets} {frz:Bool} {f:Nat} {args:List AV} {st st1:ASt} {v:AV} (hr:∀ x∈args,x.refs=[]) (h:yP M frz [] f args d st v st1):yP M frz [3000] f args d st v st1:=by obtain ⟨ak,r,outs,s1,s2,h1,_,h3,h4,⟨_,h5,h6⟩,h7⟩:=h;have ho:outs=[]:=List.map_eq_nil_iff.1 h5;subst ho;have hn:AV.refsL args=[]:=Ax.2 fun s hs=>(by obtain ⟨x,hx,hs⟩:=zd.1 hs;rw[hr x hx] at hs;cases hs);simp only[Bm,if_true,hn,settle,or_true,Option.some.injEq] at h4;subst h4;rw[qX] at h6 h7;simp only[yW,ASt.dropL,Option.some.injEq] at h6;subst h6;exact callR3.2 ⟨ak,r,zbL _ _ _ hr h1,h3,h7⟩
def callN_ok {frz:Bool} {m:Nat} {ms:List Nat} {f:Nat} {args:List AOpd} (hC:zW S C) (hb:newB m ms (args.map s.ev)=true) (h:fg C false false f (fun s=>args.map s.ev) d s k=some r) :
  ∃ v hs,k v hs=some r∧zV S q (.call frz (m :: ms) f args) d s v hs:=by
 simp only[newB,Ak,zB,Bt] at hb;obtain ⟨⟨rfl,rfl⟩,iN⟩:=hb;refine zci (q2:=q) (frz:=frz) (fun h=>by cases h) hC (fun s' ae => ?_) h;obtain rfl:s'=s:=by
  rcases ae with ae | ⟨ae,_⟩
  ·exact ae
  ·cases ae
 have hl:∀ v∈args.map s'.ev,lv s'.hp v=v:=fun v hv=>by obtain ⟨y,hy,rfl⟩:=Ap.1 hv;exact wl s' y
 refine ⟨hl,fun a st1 bT => ?_⟩;have e:(args.map s'.ev).map (av s'.hp)=args.map s'.toA.ev:=by rw[AU];exact Al fun y _=>(zE s' y).symm
 have hr:∀ x∈args.map s'.toA.ev,x.refs=[]:=fun x hx=>(by rw[← e] at hx;obtain ⟨v0,e7,rfl⟩:=Ap.1 hx;exact zao (hl v0 e7) (A7.1 iN v0 e7));unfold fC at bT;rw[e,if_neg (by simp)] at bT;simp only[qR];rw[if_neg (by simp)];exact callR_new hr bT
end
end
section
open Go Go.RowKit
section
variable {S:Seat} {q:Bool} {α:Type} {C:List CSpec} {ty:Ty} {d:Nat} {s:TSt} {k:TV->THp->Option α} {r:α}
def RW1 (x y:AV):Prop:=x=y∨(zm x=false∧zm y=false∧Wk (fun _=>False) x y)∨(x=aN∧∃ z,y=.own z [])
def kE {S:Seat} {A:Nat->Prop} {w:World} {b?:Option Nat} {x y:AV} {v:Value} (h:RW1 x y) (ha:yA S A w b? x v):yA S A w b? y v:=by
 rcases h with rfl | ⟨h1,h2,h3⟩ | ⟨rfl,z,rfl⟩
 ·exact ha
 ·have cR:b? = none∧VR0 S A w x v:=by
   cases x with
   | own z es=>simp[zm] at h1
   | _=>exact ha
  have:b? = none∧VR0 S A w y v:=⟨cR.1,cR.2.wk h3⟩;cases y with
  | own z es=>simp[zm] at h2
  | _=>exact this
 ·obtain ⟨h1,h2⟩:=ha;have:v=.slice none 0 0:=VR.v_inv (σ:=fun _=>none) (.of0 h2);exact ⟨by simp,.inl ⟨h1,rfl,this⟩⟩
def qy:AV->Bool
 | .tup _=>false
 | _=>true
def zfG {S:Seat} {A:Nat->Prop} {w:World} {β:Nat->Option Nat} {x y:AV} {v:Value} (hx:qy x=true) (hy:qy y=true) (h:RW1 x y) (hv:qY S A w β x v):qY S A w β y v:=by
 have gX:yA S A w (β 0) x v:=by
  cases x with
  | tup=>simp[qy] at hx
  | _=>exact hv
 have:=kE h gX;cases y with
 | tup=>simp[qy] at hy
 | _=>exact this
def zer {f:Nat} {as:List AV} {x y:AV} {outs:bO} (hx:qy x=true) (hy:qy y=true) (h:RW1 x y) (hr:(za S).ret f as x outs):(za S).ret f as y outs:=by intro g hg;have h2:=hr g hg;refine fun A w vs ι hl hA hι hJ ha=>(h2 A w vs ι hl hA hι hJ ha).mono ?_;rintro e w' ⟨v,he,hk,hj,β,hβ,aA,hT,hv⟩;exact ⟨v,he,hk,hj,β,hβ,aA,hT,zfG hx hy h hv⟩
def ret_rwL {f:Nat} {as:List AV} {xs ys:List AV} {outs:bO} (hl:xs.length=ys.length) (h:∀ (i:Nat) (x y:AV),xs[i]? = some x->ys[i]? = some y->RW1 x y) (hr:(za S).ret f as (.tup xs) outs):(za S).ret f as (.tup ys) outs:=by intro g hg;have h2:=hr g hg;refine fun A w vs ι bl hA hι hJ ha=>(h2 A w vs ι bl hA hι hJ ha).mono ?_;rintro e w' ⟨v,he,hk,hj,β,hβ,aA,hT,us,hv,hlen,hp⟩;refine ⟨v,he,hk,hj,β,hβ,aA,hT,us,hv,by omega,fun i y hy => ?_⟩;obtain ⟨x,hx⟩:=zu hl hy;exact kE (h i x y hx hy) (hp i x hx)
def wO {st:ASt} {x:AV} (h:x.refs=[]):zS st x=some x:=by
 cases x with
 | lsl s z off n=>simp[AV.refs] at h
 | _=>simp only[zS,h];rfl
def zcY:∀ (l:List Sh) (x:Sh.denL l),(encAL l x).length=l.length:=by
 intro l
 induction l with
 | nil=>intro x;rfl
 | cons sh l ih =>
  intro x;cases l with
  | nil=>rfl
  | cons bt l=>simp only[encAL,AK,ih x.2]
def zgH {sh:Sh} (h:sh.ans1=true) (x:sh.den):unb (encA sh x)=encA sh x:=by
 cases sh with
 | err=>cases x<;>rfl
 | ns t=>cases x<;>rfl
 | unit=>simp[Sh.ans1] at h
 | tp=>simp[Sh.ans1] at h
 | _=>rfl
def lA {sh:Sh} (h:sh.cell=true):sh.ans1=true:=by cases sh<;>first | rfl | simp[Sh.cell] at h
def PW (as bs:List AV):Prop:=as.length=bs.length∧∀ (i:Nat) (x y:AV),as[i]? = some x->bs[i]? = some y->RW1 x y
def PW.nil:PW [] []:=⟨rfl,fun i x y h=>by simp at h⟩
def PW.cons {x y:AV} {as bs:List AV} (h:RW1 x y) (hr:PW as bs):PW (x :: as) (y :: bs) :=
 ⟨by simp[hr.1],fun i a b ha hb=>by
  cases i with
  | zero=>simp at ha hb;subst ha;subst hb;exact h
  | succ i=>exact hr.2 i a b (by simpa using ha) (by simpa using hb)⟩
def zjj.rw {A:Nat->Prop} {w:World} {b m:Nat} {ι:Nat->Option Nat} {cs ds:List AV} {el:TypeId} (h:zjj S A w b ι cs el m) (hp:PW cs ds):zjj S A w b ι ds el m:=by obtain ⟨ob,h1,h2,h3,h4⟩:=h;refine ⟨ob,h1,h2,by rw[← hp.1];exact h3,fun j y hy => ?_⟩;obtain ⟨x,hx⟩:=zu hp.1 hy;exact kE (hp.2 j x y hx hy) (h4 j x hx)
def reto_rw {f:Nat} {cs ds as bs:List AV} {r:AV} {an:List AV} (hc:PW cs ds) (hp:PK as bs) (h:(za S).reto f ds bs r an):(za S).reto f cs as r an:=by intro g hg A w vs b ι el m hl hv hA hf hJ ho ha;exact h g hg A w vs b ι el m (by rw[hl,hp.1]) hv hA hf hJ (ho.rw hc) fun i y hy=>(by obtain ⟨x,hx⟩:=zu hp.1 hy;exact (ha i x hx).wk (hp.2 i x y hx hy))
def retn_rw {f:Nat} {as bs rs cs:List AV} (hp:PK as bs) (h:(za S).retn f bs rs cs):(za S).retn f as rs cs:=by intro g hg A w vs hl hA hJ ha;exact h g hg A w vs (by rw[hl,hp.1]) hA hJ fun i y hy=>(by obtain ⟨x,hx⟩:=zu hp.1 hy;exact (ha i x hx).wk (hp.2 i x y hx hy))
def zcL {h:THp} {v:TV} (hl:lv1 h v=v) (hr:rf1 v=[]):(av1 h v).refs=[]∧zm (av1 h v)=false:=by
 have hf:leaf v=true:=by rw[← hl];exact jK h v
 have bl:lv h v=v:=by rw[wa hf];exact hl
 have bI:rf v=[]:=by cases v<;>first | exact hr | simp[leaf] at hf
 refine ⟨by rw[← zbz hf];exact zao bl bI, ?_⟩;cases v with
 | e x=>cases x<;>rfl
 | ns t x=>cases x<;>rfl
 | lw=>simp[rf1] at hr
 | ls=>simp[rf1] at hr
 | pe=>simp[rf1] at hr
 | _=>rfl
def zfw {v:TV} (hr:rf1 v=[]):yd v=[]:=by cases v<;>first | rfl | simp[rf1] at hr
def RowAt (h:THp) (r:Nat):Prop:=zav r=false∧∃ v t xs,look r .gone h=.row v t xs
def zii {sh:Sh} {v:TV} {x:sh.den} (hl:lv1 s.hp v=v) (h:decC1 s.hp sh v=some x) :
  ∃ a,zS s.toA (av1 s.hp v)=some a∧RW1 a (unb (encA sh x))∧(av1 s.hp v).refs=yd v∧∀ r∈yd v,RowAt s.hp r:=by
 have flat:rf1 v=[]->∀ b,RW1 (av1 s.hp v) b->∃ a,zS s.toA (av1 s.hp v)=some a∧RW1 a b∧(av1 s.hp v).refs=yd v∧∀ r∈yd v,RowAt s.hp r:=fun hr b hb=>(by obtain ⟨k1,k2⟩:=zcL hl hr;exact ⟨_,wO k1,hb,by rw[k1,zfw hr],by rw[zfw hr];simp⟩);by_cases ho:∃ t,sh=.own t
 ·obtain ⟨t,rfl⟩:=ho;simp only[decC1] at h;split at h
  ·rename_i r w;split at h
   ·rename_i v' t' xs hf hq;obtain ⟨rfl,rfl⟩:=zJ h;refine ⟨.own t'.z (List.map t'.cells x), ?_,.inl rfl, ?_,fun r' bI => ?_⟩
    ·simp only[av1,hq,zS,zN,blk];rw[if_pos ⟨True.intro,by simp,hf⟩]
    ·simp only[av1,hq,AV.refs,yd]
    ·simp only[yd,Ai] at bI;subst bI;exact ⟨hf,_,_,_,hq⟩
   ·cases h
  ·cases h;exact ⟨aN,rfl,.inr (.inr ⟨rfl,t.z,rfl⟩),rfl,by simp[yd]⟩
  ·cases h
 ·by_cases hu:sh=.unit
  ·subst hu;simp only[decC1] at h;split at h
   ·rename_i hr;exact flat hr _ (.inr (.inl ⟨(zcL hl hr).2,rfl,.bot _⟩))
   ·cases h
  ·have h':(match sh.cell,rf1 v with | true,[]=>dec s.hp sh v | _,_=>none)=some x:=by
    cases sh with
    | own t=>exact absurd ⟨t,rfl⟩ ho
    | unit=>exact absurd rfl hu
    | _=>exact h
   split at h'
   ·rename_i ha hr;have hf:leaf v=true:=by rw[← hl];exact jK s.hp v
    have bl:lv s.hp v=v:=by rw[wa hf];exact hl
    obtain ⟨a,k1,k2⟩:=zgf bl h';obtain ⟨m1,m2⟩:=zcL hl hr;rw[zbz hf] at k1;have e:=wB m1 k1;subst e;refine flat hr _ ?_;rw[zgH (lA ha)];exact .inr (.inl ⟨m2,yO h',k2⟩)
   ·cases h'
def zeW:∀ (l:List Sh) (vs:List TV) (x:Sh.denL l),(∀ v∈vs,lv1 s.hp v=v)->zbu s.hp l vs=some x ->
  ∃ as,zb (zS s.toA) (vs.map (av1 s.hp))=some as∧PW as ((encAL l x).map unb)∧AV.refsL (vs.map (av1 s.hp))=vs.flatMap yd∧∀ r∈vs.flatMap yd,RowAt s.hp r:=by
 intro l
 induction l with
 | nil =>
  intro vs x _ h;cases vs with
  | nil=>exact ⟨[],rfl,.nil,rfl,by simp⟩
  | cons=>simp[zbu] at h
 | cons sh l ih =>
  intro vs x hl h;cases l with
  | nil =>
   match vs with
   | []=>simp[zbu] at h
   | [v] =>simp only[zbu] at h;obtain ⟨a,k1,k2,k3,k4⟩:=zii (hl v (by simp)) h;exact ⟨[a],by simp only[An,A3,zb,k1],.cons k2 .nil,by simp[AV.refsL,k3],by simpa using k4⟩
   | _ :: _ :: _=>simp[zbu] at h
  | cons bt l =>
   cases vs with
   | nil=>simp[zbu] at h
   | cons v vs =>
    simp only[zbu] at h;split at h
    ·rename_i a b h1 h2;cases h;obtain ⟨a',k1,k2,k3,k4⟩:=zii (hl v (by simp)) h1;obtain ⟨as,m1,m2,m3,m4⟩:=ih vs b (fun v hv=>hl v (Ad _ hv)) h2;refine ⟨a' :: as,by simp only[An,zb,k1,m1],.cons k2 m2,by simp only[An,AV.refsL,Cb,k3,m3],fun r hr => ?_⟩;rw[Cb] at hr;rcases Ao.1 hr with hr | hr
     ·exact k4 r hr
     ·exact m4 r hr
    ·cases h
def zeC {r:Nat} {cs:List TV} (h:objC s.hp r=some cs):s.toA.hp r=some (.var (cs.map (av1 s.hp)))∧(∀ v∈cs,lv1 s.hp v=v)∧∃ bo,look r .gone s.hp=.var bo:=by
 unfold objC at h;split at h
 ·rename_i bo hq;cases h;refine ⟨by rw[zN,hq];simp[blk],fun v hv => ?_,_,hq⟩;obtain ⟨y,_,rfl⟩:=Ap.1 hv;exact yn _ _
 ·cases h
def zis {h:THp} {l:List Sh} {vs:List TV} {x:Sh.denL l} (hl:∀ v∈vs,lv h v=v) (hx:wy h l vs=some x) (hr:vs.flatMap rf=[]):PK (vs.map (av h)) (encAL l x)∧(∀ y∈vs.map (av h),y.refs=[])∧zb (wx (hpA h)) (vs.map (av h))=some (vs.map (av h)):=by obtain ⟨as,k1,k2⟩:=zho hl hx;have bI:∀ y∈vs.map (av h),y.refs=[]:=fun y hy=>(by obtain ⟨v,hv,rfl⟩:=Ap.1 hy;exact zao (hl v hv) (A7.1 hr v hv));have e:=yZ (fun y hy a ha=>wB (bI y hy) ha) k1;subst e;exact ⟨k2,bI,k1⟩
def decO_ok {sig:List Sh} {args:List TV} {x:Sh.denL sig} (hl:∀ v∈args,lv s.hp v=v) (hr:(args.drop 1).flatMap rf=[]) (h:decO s.hp sig args=some x) :
  ∃ s0 vs l cs x0 as,args=.pv s0 0 :: vs∧objC s.hp s0=some cs∧zbu s.hp l cs=some x0∧encAL sig x=.tup (encAL l x0) :: as∧PK (vs.map (av s.hp)) as∧∀ y∈vs.map (av s.hp),y.refs=[]:=by
 unfold decO at h;split at h
 ·rename_i l s0;split at h
  ·rename_i cs hc;exact ⟨s0,[],l,cs,x,[],rfl,hc,h,rfl,⟨rfl,fun i x y h=>by simp at h⟩,by simp⟩
  ·cases h
 ·rename_i l y r s0 vs;split at h
  ·rename_i cs hc;split at h
   ·rename_i a b h1 h2;cases h;obtain ⟨k1,k2,_⟩:=zis (fun v hv=>hl v (Ad _ hv)) h2 (by simpa using hr);exact ⟨s0,vs,l,cs,a,_,rfl,hc,h1,rfl,k1,k2⟩
   ·cases h
  ·cases h
 ·cases h
def OpnIs (s:TSt) (s0 j:Nat) (u:AV) (a a':THp) (y:TV):Prop :=
 (∀ (r:List AV),zbj s0 j (u :: r) (s.push a).toA=zbj s0 (j+1) r (s.push a').toA)∧(∀ r,r≠inS s0 j->look r .gone (a'++s.hp)=look r .gone (a++s.hp)) ∧
  (∀ h':THp,look (inS s0 j) .gone h'=look (inS s0 j) .gone (a'++s.hp)->lv1 h' y=y∧A1 h' y=(match u with | .own z es=>.lsl (inS s0 j) z 0 es.length | x=>x))
def zhY {s0 n j:Nat} {sh:Sh} {x:sh.den} {a a':THp} {y:TV} (h:opnH1 s s0 n j sh x a=some (y,a')):OpnIs s s0 j (unb (encA sh x)) a a' y:=by
 by_cases ho:∃ t,sh=.own t
 ·obtain ⟨t,rfl⟩:=ho;simp only[opnH1] at h;split at h
  ·rename_i hf;simp only[Option.some.injEq,Prod.mk.injEq] at h;obtain ⟨rfl,rfl⟩:=h;obtain ⟨f0,f1⟩:=wg hf;have e:=jj (s:=s.push a) (d:=inS s0 j) (b:=.row n t x) (.newR f0) fun _=>by rw[qu (zaA _ n t .int _ [])];exact f1
   rw[qx] at e;have e0:(s.push a).toA.hp (inS s0 j)=none:=by rw[zN,f0];rfl
   refine ⟨fun r => ?_,fun r hr => ?_,fun h' hh => ?_⟩
   ·simp only[encA,unb,zbj,e0];have e':(s.push ((inS s0 j,TB.row n t x) :: a)).toA=(s.push a).toA.setH (inS s0 j) (some (.arr t.z (List.map t.cells x))):=e;rw[e']
   ·simp only[As,zf];rw[if_neg (Ne.symm hr)]
   ·have hq:look (inS s0 j) .gone h'=.row n t x:=by rw[hh,As,zf,if_pos rfl]
    have e1:lv1 h' (.lw (inS s0 j) n)=.lw (inS s0 j) n:=by simp only[lv1,hq,AG]
    refine ⟨e1, ?_⟩;rw[A1,e1];simp only[av1,hq,encA,unb,Ar]
  ·cases h
 ·have flat:a'=a->(∀ z es,unb (encA sh x)≠.own z es)->(∀ h':THp,lv1 h' y=y∧A1 h' y=unb (encA sh x))->OpnIs s s0 j (unb (encA sh x)) a a' y:=fun e1 e2 e3=>by
   subst e1;refine ⟨fun r => ?_,fun r _=>rfl,fun h' _=>⟨(e3 h').1,(e3 h').2.trans ?_⟩⟩
   ·generalize unb (encA sh x)=z at e2;cases z<;>first | rfl | exact absurd rfl (e2 _ _)
   ·generalize unb (encA sh x)=z at e2;cases z<;>first | rfl | exact absurd rfl (e2 _ _)
  by_cases hu:sh=.unit
  ·subst hu;simp only[opnH1,Option.some.injEq,Prod.mk.injEq] at h;obtain ⟨rfl,rfl⟩:=h;exact flat rfl (fun z es e=>by cases e) fun h'=>⟨rfl,rfl⟩
  ·have h':(match sh.cell with | true=>some (enc sh x,a) | false=>none)=some (y,a'):=by
    cases sh with
    | own t=>exact absurd ⟨t,rfl⟩ ho
    | unit=>exact absurd rfl hu
    | _=>exact h
   split at h'
   ·rename_i ha;simp only[Option.some.injEq,Prod.mk.injEq] at h';obtain ⟨rfl,rfl⟩:=h';have g:(∀ t,sh≠.own t)∧(∀ f l,sh≠.fnc f l)∧(∀ l,sh≠.tp l)∧sh≠.unit:=(by refine ⟨fun t e=>ho ⟨t,e⟩,fun f l e => ?_,fun l e => ?_,hu⟩<;>(subst e;simp[Sh.cell] at ha))
    have bC:∀ z es,unb (encA sh x)≠.own z es:=fun z es e=>by
     rw[zgH (lA ha)] at e;cases sh with
     | own t=>exact absurd rfl (g.1 t)
     | err=>cases x<;>cases e
     | ns t=>cases x<;>cases e
     | _=>cases e
    refine flat rfl bC fun h' => ?_;rw[zgH (lA ha)];obtain ⟨e1,e2,_⟩:=zbX g.1 g.2.1 g.2.2.1 g.2.2.2 x h';have hf:leaf (enc sh x)=true:=by
     cases sh with
     | st t=>simp[Sh.cell] at ha
     | tp t=>simp[Sh.cell] at ha
     | fnc f t=>simp[Sh.cell] at ha
     | unit=>simp[Sh.cell] at ha
     | _=>rfl
    rw[ym hf] at e1;rw[wm hf] at e2;exact ⟨e1,by rw[A1,e1,e2]⟩
   ·cases h'
def opnH_ok {s0 n:Nat}:∀ (l:List Sh) (j:Nat) (x:Sh.denL l) {a a':THp} {cs:List TV},opnH s s0 n j l x a=some (cs,a') ->
  zbj s0 j ((encAL l x).map unb) (s.push a).toA = some (s.push a').toA ∧ (∀ r, (∀ i, r ≠ inS s0 (j + i)) → look r .gone (a' ++ s.hp) = look r .gone (a ++ s.hp)) ∧
  (∀ h':THp,(∀ i,look (inS s0 (j+i)) .gone h'=look (inS s0 (j+i)) .gone (a'++s.hp))->(∀ y∈cs,lv1 h' y=y)∧cs.map (A1 h')=jI s0 j ((encAL l x).map unb)):=by
 intro l
 induction l with
 | nil =>intro j x a a' cs h;simp only[opnH,Option.some.injEq,Prod.mk.injEq] at h;obtain ⟨rfl,rfl⟩:=h;exact ⟨rfl,fun r _=>rfl,fun h' _=>⟨by simp,rfl⟩⟩
 | cons sh l ih =>
  intro j x a a' cs h
  have step:∀ (y:TV) (a1:THp) (u:AV) (us:List AV) (zs:List TV),OpnIs s s0 j u a a1 y->(zbj s0 (j+1) us (s.push a1).toA=some (s.push a').toA∧(∀ r,(∀ i,r≠inS s0 (j+1+i))->look r .gone (a'++s.hp)=look r .gone (a1++s.hp)) ∧
    (∀ h':THp,(∀ i,look (inS s0 (j+1+i)) .gone h'=look (inS s0 (j+1+i)) .gone (a'++s.hp))->(∀ y∈zs,lv1 h' y=y)∧zs.map (A1 h')=jI s0 (j+1) us)) ->
    zbj s0 j (u :: us) (s.push a).toA = some (s.push a').toA ∧ (∀ r, (∀ i, r ≠ inS s0 (j + i)) → look r .gone (a' ++ s.hp) = look r .gone (a ++ s.hp)) ∧
    (∀ h':THp,(∀ i,look (inS s0 (j+i)) .gone h'=look (inS s0 (j+i)) .gone (a'++s.hp))->(∀ z∈y :: zs,lv1 h' z=z)∧(y :: zs).map (A1 h')=jI s0 j (u :: us)):=by
   rintro y a1 u us zs ⟨k1,k2,k3⟩ ⟨m1,m2,m3⟩;refine ⟨by rw[k1,m1],fun r hr => ?_,fun h' hh => ?_⟩
   ·rw[m2 r fun i=>by have:=hr (i+1);rwa [show j+(i+1)=j+1+i by omega] at this];exact k2 r (by simpa using hr 0)
   ·obtain ⟨p1,p2⟩:=m3 h' fun i=>by have:=hh (i+1);rwa [show j+(i+1)=j+1+i by omega] at this
    have h0:look (inS s0 j) .gone h'=look (inS s0 j) .gone (a1++s.hp):=(by have:=hh 0;rw[Bo] at this;rw[this];exact m2 _ fun i e=>by have:=inS_inj e;omega);obtain ⟨q1,q2⟩:=k3 h' h0;refine ⟨fun z hz => ?_, ?_⟩
    ·rcases Aq.1 hz with rfl | hz
     ·exact q1
     ·exact p1 z hz
    ·rw[An,q2,p2];cases u<;>rfl
  cases l with
  | nil =>
   simp only[opnH] at h;split at h
   ·rename_i y a1 h1;simp only[Option.some.injEq,Prod.mk.injEq] at h;obtain ⟨rfl,rfl⟩:=h;exact step y a1 _ [] [] (zhY h1) ⟨rfl,fun r _=>rfl,fun h' _=>⟨by simp,rfl⟩⟩
   ·cases h
  | cons bt l =>
   simp only[opnH] at h;split at h
   ·rename_i y a1 h1;split at h
    ·rename_i zs a2 h2;simp only[Option.some.injEq,Prod.mk.injEq] at h;obtain ⟨rfl,rfl⟩:=h;exact step y a1 _ _ zs (zhY h1) (ih (j+1) x.2 h2)
    ·cases h
   ·cases h
def inS_ne (s j:Nat):inS s j≠s:=by simp only[inS];omega
def putO_ok {s0 n:Nat} {l:List Sh} {x:Sh.denL l} {b a:THp} {cs:List TV} (h:opnH s s0 n 0 l x ((s0,.var []) :: b)=some (cs,a)) (hb:(s.push ((s0,.var []) :: b)).toA=(s.push b).toA.setH s0 (some (.var []))) :
  putObj s0 ((encAL l x).map unb) (s.push b).toA=some (s.push ((s0,.var cs) :: a)).toA∧look s0 .gone (a++s.hp)=.var []:=by
 obtain ⟨k1,k2,k3⟩:=opnH_ok l 0 x h;have hq:look s0 .gone (a++s.hp)=.var []:=(by rw[k2 s0 fun i e=>inS_ne s0 _ e.symm,As,zf,if_pos rfl]);have e:=jj (s:=s.push a) (d:=s0) (b:=.var cs) (.var hq) fun hg=>by rw[show (s.push a).hp=a++s.hp from rfl,hq] at hg;cases hg
 rw[qx] at e;obtain ⟨m1,m2⟩:=k3 ((s0,.var cs) :: (a++s.hp)) fun i=>by rw[zf,if_neg (inS_ne s0 _).symm]
 refine ⟨?_,hq⟩;unfold putObj;rw[← hb,k1,AE,show (s0,TB.var cs) :: a=[(s0,TB.var cs)]++a from rfl,e];have e2:blk ((s0,TB.var cs) :: (s.push a).hp) (TB.var cs)=some (.var (jI s0 0 ((encAL l x).map unb))):=(by simp only[blk];rw[← m2];rfl);rw[e2]
def outO_ok {f:Nat} {res:Sh} {y:res.den} {args vals:List TV} {s0:Nat} {cs:List TV} {as:List AV} (cd:objC s.hp s0=some cs) (hA:zb (zS s.toA) (cs.map (av1 s.hp))=some as) (hr:AV.refsL (cs.map (av1 s.hp))=cs.flatMap yd)
  (cJ:∀ r∈cs.flatMap yd,RowAt s.hp r) (hn:zC (fW s.hp s0)=true) (hf:zbk (fW s.hp s0)=true) (hargs:args=.pv s0 0 :: vals) (hv:∀ z∈vals.map (av s.hp),z.refs=[])
  (aH:∀ l R (e:res=.tp [.tp l,R]),(za S).reto f as (vals.map (av s.hp)) (encA R (e ▸ y:Sh.den (.tp [.tp l,R])).2) ((encAL l (e ▸ y:Sh.den (.tp [.tp l,R])).1).map unb)) (h:outO s s0 d res y k=some r) :
  ∃ v hs a st1,k v hs=some r∧CallO (za S) f (args.map (av s.hp)) d s.toA a st1∧∀ dst:Option Nat,st1.putO dst a=((s.push hs).putO dst v).toA:=by
 unfold outO at h;split at h
 ·rename_i l R y;have aH:=aH l R rfl;split at h
  ·rename_i an a km cx;split at h
   ·rename_i v hs me;have ho:fW s.hp s0=cs.flatMap yd:=by simp only[fW,cd]
    rw[ho] at hn hf cx;obtain ⟨o1,o2,bo,o3⟩:=zeC cd;have eK:s0 ∉ cs.flatMap yd:=fun hm=>(by obtain ⟨_,v',t,xs,e⟩:=cJ s0 hm;rw[o3] at e;cases e);have g:=zcr (cs.flatMap yd) s (fun r hr=>(cJ r hr).2) hn;have hq:look s0 .gone (yM (cs.flatMap yd)++s.hp)=.var bo:=(zcK _ _ _ eK).trans o3;have e:=jj (s:=s.push (yM (cs.flatMap yd))) (d:=s0) (b:=.var []) (.var hq) fun hg=>by rw[show (s.push (yM (cs.flatMap yd))).hp=yM (cs.flatMap yd)++s.hp from rfl,hq] at hg;cases hg
    rw[qx] at e;obtain ⟨p1,_⟩:=putO_ok cx e;have hi:=opn_ok (s:=s.push ((s0,.var an) :: a)) (d:=d) (sh:=R) (x:=y.2) (by cases R<;>first | rfl | exact km | simp[Sh.ans] at km) me
    refine ⟨v,_,_,_,h,⟨s0,vals.map (av s.hp),cs.map (av1 s.hp),as,_,_,_,by rw[hargs];rfl,o1,hA,⟨by rw[hr];exact hn,by rw[hr];exact hf⟩,hv,aH,by rw[hr,← g];exact p1,hi⟩,fun dst => ?_⟩;rw[qj,show (s.push (hs++(s0,TB.var an) :: a)).hp=hs++(s.push ((s0,TB.var an) :: a)).hp from AB _ _ _,← qx]
   ·cases h
  ·cases h
 ·cases h
def zda {f:Nat} {args:List TV} (hl:∀ v∈args,lv s.hp v=v):∀ {C:List CSpec},zW S C->zea C f args d s k=some r ->
  ∃ v hs a st1,k v hs=some r∧CallO (za S) f (args.map (av s.hp)) d s.toA a st1∧∀ dst:Option Nat,st1.putO dst a=((s.push hs).putO dst v).toA
 | [],_,h=>by cases h
 | c :: C,hC,h=>by
  have rest:=zda (f:=f) hl (C:=C) fun c hc=>hC c (Ad _ hc);unfold zea at h;split at h
  ·exact rest h
  ·rename_i hb;obtain ⟨hb,dj⟩:=Au.1 hb;rw[zB] at hb;have dj:=zcV dj;split at h
   ·exact rest h
   ·rename_i x hx;split at h
    ·cases h
    ·rename_i aw;simp only[Ak,Bt] at aw;obtain ⟨hn,hf,iN⟩:=aw;obtain ⟨s0,vs,l,cs,x0,as,rfl,o1,o2,o3,o4,o5⟩:=decO_ok hl iN hx;obtain ⟨_,o6,_⟩:=zeC o1;obtain ⟨as1,m1,m2,m3,m4⟩:=zeW l cs x0 o6 o2;have fin:∀ y,c.fn x=some y->outO s s0 d c.res y k=some r->∃ v hs a st1,k v hs=some r∧CallO (za S) f ((TV.pv s0 0 :: vs).map (av s.hp)) d s.toA a st1∧∀ dst:Option Nat,st1.putO dst a=((s.push hs).putO dst v).toA:=(by intro y hy h;refine outO_ok o1 m1 m3 m4 hn hf rfl o5 (fun l' R e => ?_) h;have h0:=hC c Ah x y hy;rw[dj,hb,o3] at h0;clear h hx hC rest;generalize c.fn x=q at hy;obtain ⟨cf,csig,cres,cfn,ctot,cmuts⟩:=c;simp only at e;subst e;exact reto_rw m2 o4 h0);split at h
     ·split at h
      ·rename_i y hy;exact fin y hy h
      ·cases h
     ·obtain ⟨y,hy,h⟩:=jo h;exact fin y hy h
def outN_ok {f:Nat} {res:Sh} {y:res.den} {vals bs:List AV} (o4:PK vals bs) (o5:∀ z∈vals,z.refs=[]) (o6:zb (wx s.toA.hp) vals=some vals) (bC:∀ z∈bs,zm z=false)
  (aH:∀ l (e:res=.tp [.tp l,.err]),match (e ▸ y:Sh.den (.tp [.tp l,.err])).2.isNil with | true=>(za S).retn f bs [.v .nilIface] ((encAL l (e ▸ y:Sh.den (.tp [.tp l,.err])).1).map unb) | false=>(za S).ret f bs (.tup [.v (.pointer none),(e ▸ y:Sh.den (.tp [.tp l,.err])).2.av]) []) (h:outN s d res y k=some r) :
  ∃ v hs a st1,k v hs=some r∧(yP (za S) false [] f vals d s.toA a st1∨zjk (za S) f vals d s.toA a st1)∧∀ dst:Option Nat,st1.putO dst a=((s.push hs).putO dst v).toA:=by
 unfold outN at h;split at h
 ·rename_i l y;have h0:=aH l rfl;simp only at h0;cases bD:y.2.isNil with
  | true =>
   rw[bD] at h h0;simp only[br] at h;split at h
   ·rename_i an a hfv cx;obtain ⟨f0,f1⟩:=zeQ hfv;have e:=jj (s:=s) (d:=d) (b:=.var []) (.newV f0) fun _=>f1;obtain ⟨p1,_⟩:=putO_ok (b:=[]) cx e;have e0:s.toA.hp d=none:=by rw[zN,f0];rfl
    refine ⟨_,_,.tup [.pv d 0,.v .nilIface],(s.push ((d,.var an) :: a)).toA,h,.inr ⟨[.v .nilIface],_,_,[.v .nilIface],e0,o5,retn_rw o4 h0,p1,rfl,rfl⟩,fun dst => ?_⟩;rw[qj];congr 1;have hq:look d .gone (((d,TB.var an) :: a)++s.hp)=.var an:=by rw[As,zf,if_pos rfl]
    rw[dC];simp only[TSt.push,AR,all_nil,zy,ze,hq,Cf,if_true,An,A3,A2,lv2,lv1,av2,av1,Err.av]
   ·cases h
  | false =>
   rw[bD] at h h0;simp only[br] at h;have ft:(AV.tup [.v (.pointer none),y.2.av]).plain=true:=by cases y.2<;>rfl
   refine ⟨_,_,.tup [.v (.pointer none),y.2.av],s.toA,h,.inl (zfl.loud ⟨vals,by rw[yk];exact o6,zhS o4 (fun i a b ha hb => ?_) h0,.inl ft,zcB ft⟩),fun dst => ?_⟩
   ·obtain ⟨x0,_,hx⟩:=(zk o6).2 i a ha;rw[jP hx,bC b (Ae hb)]
   ·rw[qj,yC];rfl
 ·cases h
def zdb {f:Nat} {args:List TV} (hl:∀ v∈args,lv s.hp v=v):∀ {C:List CSpec},zW S C->zeb C f args d s k=some r ->
  ∃ v hs a st1,k v hs=some r∧(yP (za S) false [] f (args.map (av s.hp)) d s.toA a st1∨zjk (za S) f (args.map (av s.hp)) d s.toA a st1)∧∀ dst:Option Nat,st1.putO dst a=((s.push hs).putO dst v).toA
 | [],_,h=>by cases h
 | c :: C,hC,h=>by
  have rest:=zdb (f:=f) hl (C:=C) fun c hc=>hC c (Ad _ hc);unfold zeb at h;split at h
  ·exact rest h
  ·rename_i hb;obtain ⟨hb,dj⟩:=Au.1 hb;rw[zB] at hb;have dj:=zcV dj;split at h
   ·exact rest h
   ·rename_i x hx;split at h
    ·cases h
    ·rename_i aw;rw[Bt] at aw;obtain ⟨o4,o5,o6⟩:=zis hl hx aw;have fin:∀ y,c.fn x=some y->outN s d c.res y k=some r->∃ v hs a st1,k v hs=some r∧(yP (za S) false [] f (args.map (av s.hp)) d s.toA a st1∨zjk (za S) f (args.map (av s.hp)) d s.toA a st1)∧∀ dst:Option Nat,st1.putO dst a=((s.push hs).putO dst v).toA:=(by intro y hy h;refine outN_ok o4 o5 o6 (zbt hx) (fun l e => ?_) h;have h0:=hC c Ah x y hy;rw[dj,hb] at h0;clear h hx hC rest o4;generalize c.fn x=q at hy;generalize encAL c.sig x=as at h0;obtain ⟨cf,csig,cres,cfn,ctot,cmuts⟩:=c;simp only at e;subst e;exact h0);split at h
     ·split at h
      ·rename_i y hy;exact fin y hy h
      ·cases h
     ·obtain ⟨y,hy,h⟩:=jo h;exact fin y hy h
def frzA_ok {n:Nat} {args:TSt->List TV} {F:TSt->(TV->THp->Option α)->Option α} (h:frzA n s args F k=some r):∃ s' h1,(s'=s∧h1=[]∧F s k=some r)∨(s'=s.push h1∧(za S).cv s.toA (s.push h1).toA∧F (s.push h1) (fun v hs=>k v (hs++h1))=some r):=by
 unfold frzA at h;split at h
 ·exact ⟨s,[],.inl ⟨rfl,rfl,h⟩⟩
 ·split at h
  ·cases h
  ·rename_i h1 hf;exact ⟨_,h1,.inr ⟨rfl,zay _ s h1 hf,h⟩⟩
def zbT (s:TSt) (args:List AOpd):(∀ v∈args.map s.ev,lv s.hp v=v)∧(args.map s.ev).map (av s.hp)=args.map s.toA.ev :=
 ⟨fun v hv=>by obtain ⟨y,_,rfl⟩:=Ap.1 hv;exact wl s y,by rw[AU];exact Al fun y _=>(zE s y).symm⟩
def callO_ok {f:Nat} {args:List AOpd} (hC:zW S C) (h:frzA 1 s (fun s=>args.map s.ev) (fun s k=>zea C f (args.map s.ev) d s k) k=some r):∃ v hs,k v hs=some r∧zV S false (.callo 0 f args) d s v hs:=by
 obtain ⟨s',h1,⟨rfl,rfl,h⟩ | ⟨rfl,hcv,h⟩⟩:=frzA_ok (S:=S) h
 ·obtain ⟨v,hs,a,st1,k1,k2,k3⟩:=zda (S:=S) (zbT s' args).1 hC h;rw[(zbT s' args).2] at k2;exact ⟨v,hs,k1,[],a,st1,.inl rfl,k2,fun dst=>.inl (k3 dst)⟩
 ·obtain ⟨v,hs,a,st1,k1,k2,k3⟩:=zda (S:=S) (zbT (s.push h1) args).1 hC h;rw[(zbT (s.push h1) args).2] at k2;exact ⟨v,_,k1,h1,a,st1,.inr ⟨rfl,hcv⟩,k2,fun dst=>.inl (by rw[k3 dst,qj,qj,qx,show (s.push (hs++h1)).hp=((s.push h1).push hs).hp from AB _ _ _])⟩
def callN_ok' {kk f:Nat} {args:List AOpd} (hC:zW S C) (hk:kk≠0) (h:frzA 0 s (fun s=>args.map s.ev) (fun s k=>zeb C f (args.map s.ev) d s k) k=some r):∃ v hs,k v hs=some r∧zV S false (.callo kk f args) d s v hs:=by
 have step:∀ (s:TSt) (a:AV) (st1:ASt),(yP (za S) false [] f (args.map s.toA.ev) d s.toA a st1∨zjk (za S) f (args.map s.toA.ev) d s.toA a st1)->qR (za S) false (.callo kk f args) d s.toA a st1:=fun s a st1 h=>by
  cases kk with
  | zero=>exact absurd rfl hk
  | succ kk=>exact h
 obtain ⟨s',h1,⟨rfl,rfl,h⟩ | ⟨rfl,hcv,h⟩⟩:=frzA_ok (S:=S) h
 ·obtain ⟨v,hs,a,st1,k1,k2,k3⟩:=zdb (S:=S) (zbT s' args).1 hC h;rw[(zbT s' args).2] at k2;exact ⟨v,hs,k1,[],a,st1,.inl rfl,step _ _ _ k2,fun dst=>.inl (k3 dst)⟩
 ·obtain ⟨v,hs,a,st1,k1,k2,k3⟩:=zdb (S:=S) (zbT (s.push h1) args).1 hC h;rw[(zbT (s.push h1) args).2] at k2;exact ⟨v,_,k1,h1,a,st1,.inr ⟨rfl,hcv⟩,step _ _ _ k2,fun dst=>.inl (by rw[k3 dst,qj,qj,qx,show (s.push (hs++h1)).hp=((s.push h1).push hs).hp from AB _ _ _])⟩
end
end
section
open Go Go.RowKit
section
variable {S:Seat} {q:Bool} {α:Type} {C:List CSpec} {ty:Ty} {d:Nat} {s:TSt} {k:TV->THp->Option α} {r:α}
def zfr (hC:zW S C) {o:AOp} (h:top C q ty o d s k=some r):∃ v hs,k v hs=some r∧zV S q o d s v hs:=by
 cases o with
 | mov x=>exact top_mov h
 | box x=>exact top_box h
 | alloc z=>exact top_alloc h
 | build z p=>exact top_build h
 | bslice f z zz l p=>exact ziE h
 | lit z zz l p=>exact top_lit h
 | load n x=>exact top_load h
 | store z a x=>exact top_store h
 | chk x=>exact top_chk h
 | bin kd op x y=>exact top_bin h
 | eqa n sh x y=>exact top_eqa h
 | eqn sl n x=>exact top_eqn h
 | un op x=>exact top_un h
 | cvi kd x=>exact top_cvi h
 | cvs x=>exact top_cvs h
 | ifc t x=>exact top_ifc h
 | mkfn f c=>exact top_mkfn h
 | mksl z zz l c=>exact top_mksl h
 | slc z x lo hi=>exact top_slc h
 | fa off x=>exact top_fa h
 | fld off n x=>exact top_fld h
 | ia z x i=>exact top_ia h
 | ix x i=>exact top_ix h
 | ext x i=>exact top_ext h
 | len st x=>exact top_len h
 | app z x y=>exact top_app h
 | pick c a b=>exact top_pick h
 | max2 x y=>exact top_max2 h
 | call frz muts f args =>
  simp only[top] at h;split at h
  ·refine zci (frz:=frz) (fun _=>rfl) hC (fun s' _=>⟨fun v hv => ?_,fun a st1 bT => ?_⟩) h
   ·obtain ⟨y,hy,rfl⟩:=Ap.1 hv;exact wl s' y
   ·have e:(args.map s'.ev).map (av s'.hp)=args.map s'.toA.ev:=by rw[AU];exact Al fun y _=>(zE s' y).symm
    unfold fC at bT;rw[e] at bT;simp only[qR];split at bT
    ·rename_i hq;rw[if_pos ⟨hq,True.intro⟩];exact bT
    ·rename_i hq;rw[if_neg (fun hh=>hq hh.1)];exact bT
  ·split at h
   ·rename_i m ms hb;exact callN_ok hC hb h
   ·exact ziq hC h
 | callo kk f args =>
  simp only[top] at h;split at h
  ·exact callO_ok hC h
  ·rename_i hk;exact callN_ok' hC hk h
  ·cases h
 | calld frz x args =>
  simp only[top] at h;split at h
  ·rename_i f caps hx;obtain ⟨e1,e2⟩:=ye hx;refine zci (frz:=frz) (fun _=>rfl) hC (fun s' ae => ?_) h;obtain rfl:s'=s:=by
    rcases ae with ae | ⟨ae,_⟩
    ·exact ae
    ·cases ae
   refine ⟨fun v hv => ?_,fun a st1 bT => ?_⟩
   ·rw[hx] at hv;simp only[zio] at hv;rcases Ao.1 hv with hv | hv
    ·obtain ⟨y,hy,rfl⟩:=Ap.1 hv;exact wl s' y
    ·exact zcI (lv_fn e2 v hv)
   ·have e:(args.map s'.ev++zio (s'.ev x)).map (av s'.hp)=args.map s'.toA.ev++caps.map (av2 s'.hp):=by
     rw[hx,zio,Bl,AU];congr 1
     ·exact Al fun y _=>(zE s' y).symm
     ·refine Al fun y hy => ?_;have:=lv_fn e2 y hy;cases y<;>first | rfl | simp[lv2,lv1] at this
    unfold fC at bT;rw[e] at bT;simp only[qR,e1];rw[show av s'.hp (.fn f caps)=.fn f (caps.map (av2 s'.hp)) from rfl];simp only;split at bT
    ·rename_i hq;rw[if_pos hq];exact bT
    ·rename_i hq;rw[if_neg hq];exact bT
  ·cases h
def kF {b:Bool} {x y:Option α} (h:br b x y=some r):(b=true∧x=some r)∨(b=false∧y=some r):=by
 cases b with
 | true=>exact .inl ⟨rfl,h⟩
 | false=>exact .inr ⟨rfl,h⟩
def Over (s s':TSt):Prop:=(∃ l,s'.fr=l++s.fr)∧∃ l,s'.hp=l++s.hp
def Over.refl (s:TSt):Over s s:=⟨⟨[],rfl⟩,⟨[],rfl⟩⟩
def Over.trans {a b c:TSt} (h:Over a b) (h':Over b c):Over a c:=by obtain ⟨⟨l1,e1⟩,l2,e2⟩:=h;obtain ⟨⟨l3,e3⟩,l4,e4⟩:=h';exact ⟨⟨l3++l1,by rw[e3,e1,AB]⟩,l4++l2,by rw[e4,e2,AB]⟩
def Over.put (s:TSt) (d:Option Nat) (v:TV):Over s (s.putO d v):=by
 cases d with
 | none=>exact .refl s
 | some d=>exact ⟨⟨[(d,v)],rfl⟩,[],rfl⟩
def Over.push (s:TSt) (hs:THp):Over s (s.push hs):=⟨⟨[],rfl⟩,hs,rfl⟩
def zik {ops:List AOper} {st st1 ai:ASt} (h:Cv S q st st1) (hr:OpsR (za S) q ops st1 ai):OpsR (za S) q ops st ai:=by
 rcases h with rfl | ⟨hq,h⟩
 ·exact hr
 ·exact .cv hq h hr
def je (hC:zW S C):∀ (ops:List AOper) (tys:List Ty) (s:TSt) {k:TSt->Option α},ziD C q ops tys s k=some r->∃ s',k s'=some r∧OpsR (za S) q ops s.toA s'.toA∧Over s s'
 | [],tys,s,k,h=>⟨s,h,.nil _,.refl s⟩
 | ⟨d,op,none,af⟩ :: ops,tys,s,k,h=>by
  simp only[ziD] at h;obtain ⟨v,hs,h1,h0,a,st1,k1,k2,k3⟩:=zfr (S:=S) hC h;obtain ⟨s',m1,m2,m3⟩:=je hC ops tys.tail (s.done d v hs) h1;exact ⟨s',m1,zik k1 (.cons (.inl ⟨rfl,a,st1,k2,rfl⟩) (zik (k3 d) m2)),(Over.push s hs).trans ((Over.put _ _ _).trans m3)⟩
 | ⟨d,op,some (t,want),af⟩ :: ops,tys,s,k,h=>by
  simp only[ziD] at h;have same:∀ b,s.ev (.t t)=.b b->(s.put t (.b b)).toA=s.toA:=fun b hb=>by
   have e:s.toA.fr t=.v (.bool b):=(by have:=zE s (.t t);rw[hb] at this;exact this);have:=qj s (some t) (.b b);simp only[TSt.putO,ASt.putO,ASt.put] at this;rw[this,Av_b];show (⟨upd s.toA.fr t (.v (.bool b)),s.toA.hp⟩:ASt)=⟨s.toA.fr,s.toA.hp⟩;congr 1;funext j;simp only[upd];split
   ·rename_i hj;subst hj;exact e.symm
   ·rfl
  have go:∀ b,s.ev (.t t)=.b b->b=want->top C q (tys.headD .int) op (d.getD 0) (s.put t (.b b)) (fun v hs=>ziD C q ops tys.tail ((s.put t (.b b)).done d v hs) k)=some r ->
    ∃ s',k s'=some r∧OpsR (za S) q (⟨d,op,some (t,want),af⟩ :: ops) s.toA s'.toA∧Over s s':=by
   intro b hb hw h;obtain ⟨v,hs,h1,h0,a,st1,k1,k2,k3⟩:=zfr (S:=S) hC h;obtain ⟨s',m1,m2,m3⟩:=je hC ops tys.tail ((s.put t (.b b)).done d v hs) h1;refine ⟨s',m1, ?_,(Over.put s (some t) (.b b)).trans ((Over.push _ hs).trans ((Over.put _ _ _).trans m3))⟩;rw[same b hb] at k1;refine zik k1 (.cons (.inl ⟨?_,a,st1,k2,rfl⟩) (zik (k3 d) m2));have e:((s.put t (.b b)).push h0).toA.fr t=.v (.bool b):=(by rw[zbF];simp only[TSt.push,TSt.put,zf,if_true,Av_b]);simp only[bP,e];rw[hw];simp
  have by_:∀ b,s.ev (.t t)=.b b->b = !want->ziD C q ops tys.tail ((s.put t (.b b)).putO d .ud) k=some r ->
    ∃ s',k s'=some r∧OpsR (za S) q (⟨d,op,some (t,want),af⟩ :: ops) s.toA s'.toA∧Over s s':=by
   intro b hb hw h;obtain ⟨s',m1,m2,m3⟩:=je hC ops tys.tail _ h;refine ⟨s',m1,.cons (.inr ⟨?_,rfl⟩) ?_,(Over.put s (some t) (.b b)).trans ((Over.put _ _ _).trans m3)⟩
   ·have e:s.toA.fr t=.v (.bool b):=(by have:=zE s (.t t);rw[hb] at this;exact this);simp only[bP,e];rw[hw];cases want<;>rfl
   ·rw[qj,same b hb] at m2;exact m2
  split at h
  ·rename_i hu;obtain ⟨s',m1,m2,m3⟩:=je hC ops tys.tail _ h;refine ⟨s',m1,.cons (.inr ⟨?_,rfl⟩) ?_,(Over.put _ _ _).trans m3⟩
   ·have e:s.toA.fr t=Ab.ud:=(by have:=zE s (.t t);rw[hu] at this;exact this);simp only[bP,e,Ab.ud]
   ·rw[qj] at m2;exact m2
  ·rename_i x hx;rcases kF h with ⟨rfl,h⟩ | ⟨rfl,h⟩
   ·cases want with
    | true=>exact go true hx rfl h
    | false=>exact by_ true hx rfl h
   ·cases want with
    | true=>exact by_ false hx rfl h
    | false=>exact go false hx rfl h
  ·cases h
end
end
section
open Go Go.RowKit
section
variable {S:Seat} {α:Type} {C:List CSpec}
def wW {x:TV} (h:ok1 (ql [] x)=true):ql [] x=x∧rf1 x=[]:=by cases x<;>first | exact ⟨rfl,rfl⟩ | (simp[ql,ok1,look] at h;done)
def decW2 {N:Nat->Prop} {h:THp} {sh:Sh} {v:TV} {x:sh.den} (hl:lv2 h v=v) (hd:dec [] sh v=some x) (h':THp):lv2 h' (enc sh x)=enc sh x∧Wk N (av2 h v) (av2 h' (enc sh x)):=by
 cases sh with
 | int=>obtain rfl:=zZ hd;exact ⟨rfl,.rfl _⟩
 | u8=>obtain rfl:=zhp hd;exact ⟨rfl,.rfl _⟩
 | bool=>obtain rfl:=iw hd;exact ⟨rfl,.rfl _⟩
 | str=>obtain rfl:=yx hd;exact ⟨rfl,.rfl _⟩
 | err=>obtain rfl:=zhq hd;exact ⟨rfl,.rfl _⟩
 | unit =>
  simp only[dec] at hd;split at hd
  ·simp[lv2,lv1] at hl
  ·cases hd
 | sl t =>simp only[dec] at hd;obtain ⟨k1,k2,k3,k4,k5,k6⟩:=wP hd h;obtain ⟨s1,s2⟩:=wW k6;rw[s1] at k1 k4;rw[wm k4];exact ⟨rfl,k1.wk⟩
 | ns t =>simp only[dec] at hd;obtain ⟨k1,k3,k4,k5,k6⟩:=zij hd h;obtain ⟨s1,s2⟩:=wW k6;rw[s1] at k1 k4;rw[wm k4,k1];exact ⟨by cases x<;>rfl,by cases x<;>exact .rfl _⟩
 | st t =>
  simp only[dec] at hd;split at hd
  ·rename_i cs;have hu:=yU hd h;have e:cs.map (ql [])=cs:=(by have:∀ y∈cs,ql [] y=y:=fun y hy=>(wW (hu.flat _ (Ap.2 ⟨y,hy,rfl⟩)).2.2.2).1;rw[Al this,BQ]);have gl:=hu.pn;rw[e] at gl;obtain ⟨t1,t2⟩:=zbE t x h';refine ⟨mk_ag fun y hy=>j7 (t2 y hy).1, ?_⟩;simp only[enc,av2,t1];exact .agg gl.1 fun i x y hx hy=>(gl.2 i x y hx hy).wk
  ·cases hd
 | bx t =>
  simp only[dec] at hd;split at hd
  ·obtain ⟨rfl,rfl⟩:=zae hd;exact ⟨rfl,.rfl _⟩
  ·simp[look] at hd
  ·cases hd
 | own t=>simp[dec] at hd
 | fnc id caps =>
  simp only[dec] at hd;split at hd
  ·simp[lv2,lv1] at hl
  ·cases hd
 | tp l =>
  simp only[dec] at hd;split at hd
  ·simp[lv2,lv1] at hl
  ·cases hd
def decWL {N:Nat->Prop} {h:THp} (h':THp):∀ {l:List Sh} {vs:List TV} {x:Sh.denL l},(∀ v∈vs,lv2 h v=v)->wy [] l vs=some x ->
  (∀ y∈jE l x,lv2 h' y=y)∧vs.length=(jE l x).length∧∀ (i:Nat) (a b:AV),(vs.map (av2 h))[i]? = some a->((jE l x).map (av2 h'))[i]? = some b->Wk N a b
 | [],[],x,_,_=>⟨by simp[jE],rfl,by simp[jE]⟩
 | [],_ :: _,x,_,hd=>by simp[wy] at hd
 | [sh],[],x,_,hd=>by simp[wy] at hd
 | [sh],[v],x,hl,hd=>by
  simp only[wy] at hd;obtain ⟨h1,h2⟩:=decW2 (N:=N) (hl v (by simp)) hd h';refine ⟨by simpa[jE] using h1,rfl,fun i a b ha hb => ?_⟩;cases i with
  | zero=>simp[jE] at ha hb;subst ha;subst hb;exact h2
  | succ i=>simp at ha
 | [sh],_ :: _ :: _,x,_,hd=>by simp[wy] at hd
 | sh :: bt :: r,[],x,_,hd=>by simp[wy] at hd
 | sh :: bt :: r,v :: vs,x,hl,hd=>by
  simp only[wy] at hd;split at hd
  ·rename_i a b ha hb;cases hd;obtain ⟨h1,h2⟩:=decW2 (N:=N) (hl v (by simp)) ha h';obtain ⟨h3,h4,h5⟩:=decWL (N:=N) h' (fun v hv=>hl v (Ad _ hv)) hb;refine ⟨fun y hy => ?_,by simp only[jE,AK,h4],fun i a b ha hb => ?_⟩
   ·simp only[jE] at hy;rcases Aq.1 hy with rfl | hy
    ·exact h1
    ·exact h3 y hy
   ·simp only[jE] at hb;cases i with
    | zero=>simp at ha hb;subst ha;subst hb;exact h2
    | succ i=>simp only[An,AN] at ha hb;exact h5 i a b ha hb
  ·cases hd
def decW {N:Nat->Prop} {h:THp} {sh:Sh} {v:TV} {x:sh.den} (hl:lv h v=v) (hd:dec [] sh v=some x) (h':THp):Wk N (av h v) (Av h' (enc sh x)):=by
 by_cases h2:lv2 h v=v
 ·obtain ⟨k1,k2⟩:=decW2 (N:=N) h2 hd h';have e1:av h v=av2 h v:=by cases v<;>first | rfl | simp[lv2,lv1] at h2
  have e2:Av h' (enc sh x)=av2 h' (enc sh x):=by
   rw[jA (zcI k1)];cases he:enc sh x with
   | tp=>rw[he] at k1;simp[lv2,lv1] at k1
   | fn=>rw[he] at k1;simp[lv2,lv1] at k1
   | _=>rfl
  rw[e1,e2];exact k2
 ·cases v with
  | tp vs =>
   cases sh with
   | tp l =>simp only[dec] at hd;obtain ⟨k1,k2,k3⟩:=decWL (N:=N) h' (lv_tp hl) hd;have:lv h' (.tp (jE l x))=.tp (jE l x):=(by simp only[lv,Af.2 fun y hy=>(by rw[← k1 y hy];exact jM _ _:zy h' y=true)];rw[Al k1,BQ]);simp only[enc];rw[jA this];exact .tup (by simp[k2]) k3
   | unit =>
    simp only[dec] at hd;split at hd
    ·rename_i he;cases he;exact .rfl _
    ·cases hd
   | _=>simp[dec,dI,dU,dB,dS,dE,ql,dSl,dNs] at hd
  | fn f vs =>
   cases sh with
   | fnc id caps =>
    simp only[dec] at hd;split at hd
    ·rename_i hb;rw[zB] at hb;subst hb;obtain ⟨k1,k2,k3⟩:=decWL (N:=N) h' (lv_fn hl) hd;have:lv h' (.fn id (jE caps x))=.fn id (jE caps x):=(by simp only[lv,Af.2 fun y hy=>(by rw[← k1 y hy];exact jM _ _:zy h' y=true)];rw[Al k1,BQ]);simp only[enc];rw[jA this];exact .fn (by simp[k2]) k3
    ·cases hd
   | _=>simp[dec,dI,dU,dB,dS,dE,ql,dSl,dNs] at hd
  | ag cs=>exact absurd hl h2
  | _=>exact absurd hl h2
def zaT {k:Nat}:∀ {l:List Nat},memN k l=true↔k∈l
 | []=>by simp[memN]
 | a :: r=>by
  simp only[memN];cases hb:Nat.beq a k with
  | true=>rw[zB] at hb;subst hb;simp
  | false =>
   have:a≠k:=fun e=>by subst e;simp[AG] at hb
   simp only[zaT (l:=r),Aq];exact ⟨.inr,fun h=>h.resolve_left (Ne.symm this)⟩
def jL {β:Type} {k:Nat} {d:β}:∀ {l m:List (Nat×β)},k ∉ l.map (·.1)->look k d (l++m)=look k d m
 | [],_,_=>rfl
 | (a,x) :: r,m,h=>by
  simp only[An,Aq,not_or] at h;rw[As,zf,if_neg (Ne.symm h.1)];exact jL h.2
def lr {β:Type} {k:Nat} {d v:β}:∀ {l m:List (Nat×β)},dis1 (l.map (·.1))=true->(k,v)∈l->look k d (l++m)=v
 | (a,x) :: r,m,hd,h=>by
  simp only[An,dis1,Ak,AJ] at hd;rw[As,zf];rcases Aq.1 h with h | h
  ·cases h;rw[if_pos rfl]
  ·rw[if_neg]
   ·exact lr hd.2 h
   ·intro e;subst e;have:memN a (r.map (·.1))=true:=zaT.2 (Ap.2 ⟨_,h,rfl⟩);rw[hd.1] at this;cases this
def zig {l m:List Nat} (h:dis1 (l++m)=true):dis1 l=true∧∀ k∈l,k ∉ m:=by
 induction l with
 | nil=>exact ⟨rfl,by simp⟩
 | cons a l ih =>
  simp only[As,dis1,Ak,AJ] at h;obtain ⟨h1,h2⟩:=ih h.2;have hm:a ∉ l++m:=fun hm=>by rw[zaT.2 hm] at h;cases h.1
  refine ⟨?_,fun k hk => ?_⟩
  ·simp only[dis1,Ak,AJ];refine ⟨?_,h1⟩;cases hb:memN a l with
   | true=>exact absurd (Ao.2 (.inl (zaT.1 hb))) hm
   | false=>rfl
  ·rcases Aq.1 hk with rfl | hk
   ·exact fun hh=>hm (Ao.2 (.inr hh))
   ·exact h2 k hk
def OkRow (h H:THp) (n r:Nat) (v w:TV):Prop:=∃ (t:Ty) (y:List t.den),w=.lw r n∧(r,TB.row n t y)∈H∧pRow h r t v=some y
def OkF (h H:THp) (n:Nat) (v w:TV):Prop:=(∃ (sh:Sh) (y:sh.den),w=enc sh y∧dec [] sh v=some y)∨∃ r,OkRow h H n r v w
def OkB (s0:TSt) (h H:THp) (n r:Nat) (b:TB):Prop :=
 (∃ (t:Ty) (y:List t.den) (v:TV),b=.row n t y∧pRow h r t v=some y∧lv h v=v∧jy r (.row n .int []) s0=true)∨(∃ (v:Nat) (t:Ty) (y:List t.den),b=.row v t y∧look r .gone h=.row v t y) ∨
 (∃ cs vs,b=.var cs∧look r .gone h=.var vs∧cs.length=vs.length∧∀ (i:Nat) (c v:TV),cs[i]? = some c->vs[i]? = some v->OkF h H n (lv1 h v) c)
def OkF.mono {h H H':THp} {n:Nat} {v w:TV} (hs:∀ p∈H,p∈H') (ho:OkF h H n v w):OkF h H' n v w:=by
 rcases ho with ho | ⟨r,t,y,h1,h2,h3⟩
 ·exact .inl ho
 ·exact .inr ⟨r,t,y,h1,hs _ h2,h3⟩
def OkB.mono {s0:TSt} {h H H':THp} {n r:Nat} {b:TB} (hs:∀ p∈H,p∈H') (ho:OkB s0 h H n r b):OkB s0 h H' n r b:=by
 rcases ho with ho | ho | ⟨cs,vs,h1,h2,h3,h4⟩
 ·exact .inl ho
 ·exact .inr (.inl ho)
 ·exact .inr (.inr ⟨cs,vs,h1,h2,h3,fun i c v hc hv=>(h4 i c v hc hv).mono hs⟩)
structure OkM (s0 s:TSt) (n:Nat) (F:List (Nat×TV)) (H:THp):Prop where
 fr:∀ k w,(k,w)∈F->OkF s.hp H n (s.ev (.t k)) w
 hp:∀ r b,(r,b)∈H->OkB s0 s.hp H n r b
def iCKs_ok {s0:TSt} {h:THp} {n:Nat}:∀ {cs:List CK} {vs:List TV} {x:CK.denL cs},(ckH cs).all (fun s=>jy s (.row n .int []) s0)=true->(∀ v∈vs,lv h v=v)->pCKs h cs vs=some x ->
  (zgB n cs x).1.length=vs.length∧(zgB n cs x).2.map (·.1)=ckH cs∧(∀ (i:Nat) (c v:TV),(zgB n cs x).1[i]? = some c->vs[i]? = some v->OkF h (zgB n cs x).2 n v c)∧∀ r b,(r,b)∈(zgB n cs x).2->OkB s0 h [] n r b:=by
 have one:∀ (c:CK) (v:TV) (x:c.den),(ckH [c]).all (fun s=>jy s (.row n .int []) s0)=true->lv h v=v->pCK h c v=some x->OkF h (iCK n c x).2 n v (iCK n c x).1∧(∀ r b,(r,b)∈(iCK n c x).2->OkB s0 h [] n r b)∧(iCK n c x).2.map (·.1)=ckH [c]:=by
  intro c v x hf hl hp;cases c with
  | sh sh=>exact ⟨.inl ⟨sh,x,rfl,hp⟩,by simp[iCK],rfl⟩
  | row r t =>refine ⟨.inr ⟨r,t,x,rfl,by simp[iCK],hp⟩,fun r' b hm => ?_,rfl⟩;simp only[iCK,Ai,Prod.mk.injEq] at hm;obtain ⟨rfl,rfl⟩:=hm;exact .inl ⟨t,x,v,rfl,hp,hl,by simpa[ckH] using hf⟩
 intro cs
 induction cs with
 | nil =>
  intro vs x _ _ hp;cases vs with
  | nil=>exact ⟨rfl,rfl,by simp[zgB],by simp[zgB]⟩
  | cons=>simp[pCKs] at hp
 | cons c cs ih =>
  intro vs x hf hl hp;have de:(ckH [c]).all (fun s=>jy s (.row n .int []) s0)=true∧(ckH cs).all (fun s=>jy s (.row n .int []) s0)=true:=(by cases c<;>simp_all[ckH]);cases cs with
  | nil =>
   match vs with
   | []=>simp[pCKs] at hp
   | [v] =>
    simp only[pCKs] at hp;obtain ⟨h1,h2,h3⟩:=one c v x de.1 (hl v (by simp)) hp;refine ⟨rfl,h3,fun i c' v' hc hv => ?_,h2⟩;cases i with
    | zero=>simp[zgB] at hc hv;subst hc;subst hv;exact h1
    | succ i=>simp at hv
   | _ :: _ :: _=>simp[pCKs] at hp
  | cons c' cs =>
   cases vs with
   | nil=>simp[pCKs] at hp
   | cons v vs =>
    simp only[pCKs] at hp;split at hp
    ·rename_i a b ha hb;cases hp;obtain ⟨h1,h2,h3⟩:=one c v a de.1 (hl v (by simp)) ha;obtain ⟨k1,k2,k3,k4⟩:=ih de.2 (fun v hv=>hl v (Ad _ hv)) hb;refine ⟨by simp only[zgB,AK,k1], ?_,fun i e w he hw => ?_,fun r b' hm => ?_⟩
     ·simp only[zgB,Bl,h3,k2];cases c<;>rfl
     ·simp only[zgB] at he ⊢;cases i with
      | zero=>simp at he hw;subst he;subst hw;exact h1.mono fun p hp=>Ao.2 (.inl hp)
      | succ i=>simp only[AN] at he hw;exact (k3 i e w he hw).mono fun p hp=>Ao.2 (.inr hp)
     ·simp only[zgB] at hm;rcases Ao.1 hm with hm | hm
      ·exact h2 r b' hm
      ·exact k4 r b' hm
    ·cases hp
def eqVer_ok {a b:Option Nat} (h:eqVer a b=true):∃ v,a=some v∧b=some v:=by cases a<;>cases b<;>simp[eqVer] at h;exact ⟨_,rfl,by rw[h]⟩
def lv1_lv (h:THp) (y:TV):lv h (lv1 h y)=lv1 h y:=by rw[wa (jK h y),yn]
def iMK_ok {s0 s:TSt} {n:Nat} (m:MK) (x:m.den) (hf:okK s0 n m=true) (hp:pMK s0 s m=some x):OkM s0 s n (iMK n s0.hp m x).1 (iMK n s0.hp m x).2∧(iMK n s0.hp m x).1.map (·.1)=ksF [m]∧(iMK n s0.hp m x).2.map (·.1)=ksH [m]:=by
 cases m with
 | slot k sh=>exact ⟨⟨fun k' w hm=>by simp[iMK] at hm;obtain ⟨rfl,rfl⟩:=hm;exact .inl ⟨sh,x,rfl,hp⟩,fun r b hm=>by simp[iMK] at hm⟩,rfl,rfl⟩
 | row k r t =>
  refine ⟨⟨fun k' w hm => ?_,fun r' b hm => ?_⟩,rfl,rfl⟩
  ·simp only[iMK,Ai,Prod.mk.injEq] at hm;obtain ⟨rfl,rfl⟩:=hm;exact .inr ⟨r,t,x,rfl,by simp[iMK],hp⟩
  ·simp only[iMK,Ai,Prod.mk.injEq] at hm;obtain ⟨rfl,rfl⟩:=hm;exact .inl ⟨t,x,_,rfl,hp,wl s _,hf⟩
 | rowH r t =>
  refine ⟨⟨fun k' w hm=>by simp[iMK] at hm,fun r' b hm => ?_⟩,rfl,rfl⟩;simp only[iMK,Ai,Prod.mk.injEq] at hm;obtain ⟨rfl,rfl⟩:=hm;simp only[pMK] at hp;split at hp
  ·rename_i v t' xs hl he;obtain ⟨rfl,rfl⟩:=zJ hp;obtain ⟨v',h1,h2⟩:=eqVer_ok he;simp only[verOf,hl,Option.some.injEq] at h2;subst h2;exact .inr (.inl ⟨v,t',x,by rw[h1];rfl,hl⟩)
  ·cases hp
 | var r cs =>
  simp only[pMK] at hp;split at hp
  ·rename_i vs hl;obtain ⟨k1,k2,k3,k4⟩:=iCKs_ok (n:=n) hf (fun v hv=>by obtain ⟨z,hz,rfl⟩:=Ap.1 hv;exact lv1_lv _ z) hp;refine ⟨⟨fun k' w hm=>by simp[iMK] at hm,fun r' b hm => ?_⟩,rfl, ?_⟩
   ·simp only[iMK] at hm ⊢;rcases Aq.1 hm with hm | hm
    ·simp only[Prod.mk.injEq] at hm;obtain ⟨rfl,rfl⟩:=hm;refine .inr (.inr ⟨_,vs,rfl,hl,by simpa using k1,fun i c v hc hv => ?_⟩);exact (k3 i c (lv1 s.hp v) hc (by simp[hv])).mono fun p hp=>Ad _ hp
    ·exact (k4 r' b hm).mono (by simp)
   ·simp only[iMK,An,k2,ksH,BN]
  ·cases hp
def iMKs_ok {s0 s:TSt} {n:Nat}:∀ (ks:List MK) (x:MK.denL ks),ks.all (okK s0 n)=true->pMKs s0 s ks=some x->OkM s0 s n (zgA n s0.hp ks x).1 (zgA n s0.hp ks x).2∧(zgA n s0.hp ks x).1.map (·.1)=ksF ks∧(zgA n s0.hp ks x).2.map (·.1)=ksH ks:=by
 intro ks
 induction ks with
 | nil=>intro x _ _;exact ⟨⟨by simp[zgA],by simp[zgA]⟩,rfl,rfl⟩
 | cons m ks ih =>
  intro x hf hp;simp only[AR,Ak] at hf;cases ks with
  | nil=>exact iMK_ok m x hf.1 hp
  | cons m' ks =>
   simp only[pMKs] at hp;split at hp
   ·rename_i a b ha hb;cases hp;obtain ⟨h1,h2,h3⟩:=iMK_ok (n:=n) m a hf.1 ha;obtain ⟨k1,k2,k3⟩:=ih b hf.2 hb;refine ⟨⟨fun k w hm => ?_,fun r b' hm => ?_⟩, ?_, ?_⟩
    ·simp only[zgA] at hm ⊢;rcases Ao.1 hm with hm | hm
     ·exact (h1.fr k w hm).mono fun p hp=>Ao.2 (.inl hp)
     ·exact (k1.fr k w hm).mono fun p hp=>Ao.2 (.inr hp)
    ·simp only[zgA] at hm ⊢;rcases Ao.1 hm with hm | hm
     ·exact (h1.hp r b' hm).mono fun p hp=>Ao.2 (.inl hp)
     ·exact (k1.hp r b' hm).mono fun p hp=>Ao.2 (.inr hp)
    ·simp only[zgA,Bl,h2,k2];cases m<;>rfl
    ·simp only[zgA,Bl,h3,k3];cases m<;>simp[ksH]
   ·cases hp
end
end
section
open Go Go.RowKit
section
variable {S:Seat} {α:Type} {C:List CSpec}
def lo_of {h h':THp} {y:TV} (hd:∀ r∈rf1 y,look r .gone h'=look r .gone h∨((∃ a,look r .gone h=.var a)∧∃ b,look r .gone h'=.var b)∨ze h' y=false):LO h h' y:=by
 cases y with
 | lw r v =>
  rcases hd r (by simp[rf1]) with e | ⟨⟨a,e1⟩,b,e2⟩ | e
  ·exact .inr ⟨by simp only[ze,e],by
    simp only[A1,lv1,e]
    repeat' split
    all_goals simp only[av1,e]⟩
  ·exact .inl (by simp only[ze,e2])
  ·exact .inl e
 | ls r v off len =>
  rcases hd r (by simp[rf1]) with e | ⟨⟨a,e1⟩,b,e2⟩ | e
  ·exact .inr ⟨by simp only[ze,e],by
    simp only[A1,lv1,e]
    repeat' split
    all_goals simp only[av1,e]⟩
  ·exact .inl (by simp only[ze,e2])
  ·exact .inl e
 | pe r v i off =>
  rcases hd r (by simp[rf1]) with e | ⟨⟨a,e1⟩,b,e2⟩ | e
  ·exact .inr ⟨by simp only[ze,e],by
    simp only[A1,lv1,e]
    repeat' split
    all_goals simp only[av1,e]⟩
  ·exact .inl (by simp only[ze,e2])
  ·exact .inl e
 | pv r off =>
  rcases hd r (by simp[rf1]) with e | ⟨⟨a,e1⟩,b,e2⟩ | e
  ·exact .inr ⟨by simp only[ze,e],by
    simp only[A1,lv1,e]
    repeat' split
    all_goals simp only[av1]⟩
  ·exact .inr ⟨by simp only[ze,e1,e2],by simp only[A1,lv1,e1,e2,av1]⟩
  ·exact .inl e
 | ns t x=>cases x<;>exact .inr ⟨rfl,rfl⟩
 | _=>exact .inr ⟨rfl,rfl⟩
def freeB_fr {d:Nat} {b:TB} {s:TSt} (hf:jy d b s=true) (k:Nat):∀ y∈zaW (look k .bot s.fr),cl1 d b y=false:=by
 rcases wd (k:=k) (d:=TV.bot) (l:=s.fr) with h | h
 ·rw[h];intro y hy;simp only[zaW,qW,Ai] at hy;subst hy;cases b<;>rfl
 ·have:=Af.1 (Au.1 hf).1 _ h;exact zeZ (by simpa using this)
def freeB_hp {d:Nat} {b:TB} {s:TSt} (hf:jy d b s=true) {r:Nat} {cs:List TV} (hl:look r .gone s.hp=.var cs):∀ y∈cs,cl1 d b y=false:=by
 intro y hy;rcases wd (k:=r) (d:=TB.gone) (l:=s.hp) with h | h
 ·rw[h] at hl;cases hl
 ·rw[hl] at h;have:=Af.1 (Au.1 hf).2 _ h;simp only at this;simpa using Af.1 this y hy
def pRow_ok {h:THp} {r:Nat} {t:Ty} {v:TV} {y:List t.den} (hp:pRow h r t v=some y):(v=.nl∧look r .gone h=.gone∧y=[])∨∃ v' cZ,v=.lw r v'∧look r .gone h=.row cZ t y:=by
 unfold pRow at hp;split at hp
 ·split at hp
  ·rename_i h1 h2;cases hp;refine .inl ⟨rfl, ?_,rfl⟩;cases hq:look r .gone h<;>simp_all[gN]
  ·cases hp
 ·rename_i s' v';split at hp
  ·rename_i cZ t' xs hb hl;rw[zB] at hb;subst hb;obtain ⟨rfl,rfl⟩:=zJ hp;exact .inr ⟨v',cZ,rfl,hl⟩
  ·cases hp
 ·cases hp
def subN_ok {l m:List Nat} (h:subN l m=true):∀ k∈l,k∈m:=fun k hk=>zaT.1 (Af.1 h k hk)
def zhO {β:Type} {l m:List β} {n:List β} (h:n=l++m):n.take (n.length - m.length)=l:=by subst h;simp
def inj_ok {m:Mods} {s0 s:TSt} {x:MK.denL m.ks} (ho:Over s0 s) (ht:told m s0 s=true) (hp:pMKs s0 s m.ks=some x):(za S).cv s.toA (inj m s0 x).toA:=by
 obtain ⟨⟨lf,ef⟩,lh,eh⟩:=ho;unfold told at ht;simp only[Ak] at ht;obtain ⟨⟨t1,⟨t2,t3,t4⟩,t5⟩,t6⟩:=ht;rw[zhO ef] at t2;rw[zhO eh] at t3;have t2:=subN_ok t2;have t3:=subN_ok t3;obtain ⟨⟨m1,m2⟩,kf,kh⟩:=iMKs_ok (s0:=s0) (s:=s) (n:=s0.ctr) m.ks x t1 hp;generalize hF:(zgA s0.ctr s0.hp m.ks x).1=F at m1 m2 kf kh;generalize hH:(zgA s0.ctr s0.hp m.ks x).2=H at m1 m2 kf kh;obtain ⟨d1,d2⟩:=zig t4;obtain ⟨d3,d4⟩:=zig t5;rw[← kh] at d1 d2;rw[← kf] at d3 d4;have ifr:(inj m s0 x).fr=F++(m.w.map fun k=>(k,TV.bot))++s0.fr:=by rw[← hF];rfl
 have ihp:(inj m s0 x).hp=H++(m.wh.map fun k=>(k,TB.gone))++s0.hp:=by rw[← hH];rfl
 have wkeys:(m.w.map fun k=>(k,TV.bot)).map (·.1)=m.w:=by rw[AU];exact BQ _
 have whkeys:(m.wh.map fun k=>(k,TB.gone)).map (·.1)=m.wh:=by rw[AU];exact BQ _
 -- the heap,name by name
 have gp:∀ r b,(r,b)∈H->look r .gone (inj m s0 x).hp=b:=fun r b hb=>by rw[ihp,AB];exact lr d1 hb
 have gones:∀ (l:List Nat) (r:Nat) (rest:THp),r∈l->look r .gone ((l.map fun k=>(k,TB.gone))++rest)=.gone:=by
  intro l
  induction l with
  | nil=>intro r rest h;cases h
  | cons a l ih =>
   intro r rest h;simp only[An,As,zf];split
   ·rfl
   ·rename_i ah;exact ih r rest ((Aq.1 h).resolve_left (Ne.symm ah))
 have bots:∀ (l:List Nat) (k:Nat) (rest:List (Nat×TV)),k∈l->look k .bot ((l.map fun k=>(k,TV.bot))++rest)=.bot:=by
  intro l
  induction l with
  | nil=>intro r rest h;cases h
  | cons a l ih =>
   intro r rest h;simp only[An,As,zf];split
   ·rfl
   ·rename_i ah;exact ih r rest ((Aq.1 h).resolve_left (Ne.symm ah))
 have iR:∀ r,r∈m.wh->look r .gone (inj m s0 x).hp=.gone:=fun r hr=>(by have hn:r ∉ H.map (·.1):=fun h=>d2 r h hr;rw[ihp,AB,jL hn];exact gones m.wh r s0.hp hr);have eP:∀ r,r ∉ H.map (·.1)->r ∉ m.wh->look r .gone (inj m s0 x).hp=look r .gone s.hp∧look r .gone s0.hp=look r .gone s.hp:=fun r h1 h2=>by
  rw[ihp,AB,jL h1,jL (by rw[whkeys];exact h2),eh,jL]
  ·exact ⟨rfl,rfl⟩
  ·intro hm;rcases Ao.1 (t3 r hm) with h | h
   ·rw[← kh] at h;exact h1 h
   ·exact h2 h
 have cases3:∀ r,(∃ b,(r,b)∈H)∨(r∈m.wh)∨(r ∉ H.map (·.1)∧r ∉ m.wh):=fun r=>by
  by_cases h1:r∈H.map (·.1)
  ·obtain ⟨⟨a,b⟩,hm,rfl⟩:=Ap.1 h1;exact .inl ⟨b,hm⟩
  ·by_cases h2:r∈m.wh
   ·exact .inr (.inl h2)
   ·exact .inr (.inr ⟨h1,h2⟩)
 -- zaW of the elder state
 have ph:∀ y,(∀ r b,(r,b)∈H->jy r (.row s0.ctr .int []) s0=true->cl1 r (.row s0.ctr .int []) y=false)->LO s.hp (inj m s0 x).hp y:=by
  intro y hy;refine lo_of fun r hr => ?_;rcases cases3 r with ⟨b,hb⟩ | hw | ⟨h1,h2⟩
  ·have hl:=gp r b hb;rcases m2 r b hb with ⟨t,z,v,rfl,eN,_,hf⟩ | ⟨v,t,z,rfl,hq⟩ | ⟨cs,vs,rfl,hq,_,_⟩
   ·right;right;have:=hy r _ hb hf;cases y with
    | lw r' v' =>simp only[rf1,Ai] at hr;subst hr;simp only[cl1,AG,A4] at this;simp only[ze,hl,this]
    | ls r' v' off len =>simp only[rf1,Ai] at hr;subst hr;simp only[cl1,AG,A4] at this;simp only[ze,hl,this]
    | pe r' v' i off =>simp only[rf1,Ai] at hr;subst hr;simp only[cl1,AG,A4] at this;simp only[ze,hl,this]
    | pv r' off =>simp only[rf1,Ai] at hr;subst hr;simp only[ze,hl]
    | _=>simp[rf1] at hr
   ·exact .inl (hl.trans hq.symm)
   ·exact .inr (.inl ⟨⟨vs,hq⟩,cs,hl⟩)
  ·right;right;have hl:=iR r hw;cases y with
   | lw r' v'=>simp only[rf1,Ai] at hr;subst hr;simp only[ze,hl]
   | ls r' v' off len=>simp only[rf1,Ai] at hr;subst hr;simp only[ze,hl]
   | pe r' v' i off=>simp only[rf1,Ai] at hr;subst hr;simp only[ze,hl]
   | pv r' off=>simp only[rf1,Ai] at hr;subst hr;simp only[ze,hl]
   | _=>simp[rf1] at hr
  ·exact .inl (eP r h1 h2).1
 -- values that are told
 let N:Nat->Prop:=fun r=>s.toA.hp r=none
 have kq:∀ v w,lv s.hp v=v->OkF s.hp H s0.ctr v w->Wk N (av s.hp v) (Av (inj m s0 x).hp w):=by
  rintro v w hl (⟨sh,y,rfl,hd⟩ | ⟨r,t,y,rfl,hm,eN⟩)
  ·exact decW hl hd _
  ·have oV:=gp r _ hm;have e3:lv (inj m s0 x).hp (.lw r s0.ctr)=.lw r s0.ctr:=by simp only[lv,lv2,lv1,oV,AG]
   rw[jA e3,dY oV];rcases pRow_ok eN with ⟨rfl,hg,rfl⟩ | ⟨v',cZ,rfl,hg⟩
   ·exact .row0 r t.z (by simp only[N,zN,hg,blk])
   ·rw[dY hg];exact .rfl _
 refine lC (SWk.mk' (N:=N) (fun k => ?_) (fun r => ?_) fun r hr=>hr)
 ·rw[zbF,zbF];by_cases h1:k∈F.map (·.1)
  ·obtain ⟨⟨k',w⟩,hm,rfl⟩:=Ap.1 h1;have e:look k' .bot (inj m s0 x).fr=w:=by rw[ifr,AB];exact lr d3 hm
   rw[e,← Av_lv];have:=kq _ w (wl s (.t k')) (m1 k' w hm);rw[← jA (wl s (.t k'))] at this;exact this
  ·by_cases h2:k∈m.w
   ·have e:look k .bot (inj m s0 x).fr=.bot:=(by rw[ifr,AB,jL h1];exact bots m.w k s0.fr h2);rw[e];exact .bot _
   ·have e:look k .bot (inj m s0 x).fr=look k .bot s0.fr:=(by rw[ifr,AB,jL h1,jL (by rw[wkeys];exact h2)]);have e2:look k .bot s.fr=look k .bot s0.fr:=by
     rw[ef,jL];intro hm;rcases Ao.1 (t2 k hm) with h | h
     ·rw[← kf] at h;exact h1 h
     ·exact h2 h
    rw[e,e2];exact LO.wk fun y hy=>ph y fun r b hb hf=>freeB_fr hf k y hy
 ·rw[zN,zN];rcases cases3 r with ⟨b,hb⟩ | hw | ⟨h1,h2⟩
  ·rw[gp r b hb];rcases m2 r b hb with ⟨t,z,v,rfl,eN,hl,hf⟩ | ⟨v,t,z,rfl,hq⟩ | ⟨cs,vs,rfl,hq,hlen,aj⟩
   ·rcases pRow_ok eN with ⟨rfl,hg,rfl⟩ | ⟨v',cZ,rfl,hg⟩
    ·exact .inr (.inr ⟨by rw[hg];rfl,t.z,rfl⟩)
    ·exact .inr (.inl ⟨_,_,by rw[hg];rfl,rfl,.rfl _⟩)
   ·exact .inr (.inl ⟨_,_,by rw[hq];rfl,rfl,.rfl _⟩)
   ·refine .inr (.inl ⟨_,_,by rw[hq];rfl,rfl,.var (by simp[hlen]) fun i a b ha hb => ?_⟩);simp only[Aw,Ag] at ha hb;obtain ⟨v,hv,rfl⟩:=ha;obtain ⟨c,hc,rfl⟩:=hb;have:=kq _ c (lv1_lv s.hp v) (aj i c v hc hv);rw[zbz (jK _ _)] at this;have e:Av (inj m s0 x).hp c=A1 (inj m s0 x).hp c∨Wk N (av1 s.hp (lv1 s.hp v)) (A1 (inj m s0 x).hp c):=by
     by_cases hx:leaf c=true
     ·exact .inl (qC hx)
     ·right;have:A1 (inj m s0 x).hp c=.bot:=by cases c<;>first | rfl | simp[leaf] at hx
      rw[this];exact .bot _
    rcases e with e | e
    ·rw[e] at this;exact this
    ·exact e
  ·rw[iR r hw];refine .inl ⟨rfl,fun hf => ?_⟩;have:=Af.1 t6 r hw;rw[hf] at this;cases this
  ·obtain ⟨e1,e2⟩:=eP r h1 h2;rw[e1];cases hq:look r .gone s.hp with
   | var vs =>
    refine .inr (.inl ⟨_,_,rfl,rfl,.var (by simp) fun i a b ha hb => ?_⟩);simp only[Aw,Ag] at ha hb;obtain ⟨v,hv,rfl⟩:=ha;obtain ⟨v',gX,rfl⟩:=hb;rw[hv] at gX;cases gX;have eR:=ph v fun r' b' ay hf=>freeB_hp hf (e2.trans hq) v (Ae hv);rcases eR with eR | eR
    ·have:=zaI eR;simp only[A1] at this;rw[this];exact .bot _
    ·have:=eR.av;simp only[A1] at this;rw[this];exact .rfl _
   | row v t xs=>exact .inr (.inl ⟨_,_,rfl,rfl,.rfl _⟩)
   | _=>exact .inl ⟨rfl,fun _=>rfl⟩
def zap {m:Mods} {s0 s:TSt} {x:MK.denL m.ks} (ho:Over s0 s) (hp:zfE m s0 s=some x):(za S).cv s.toA (inj m s0 x).toA:=by
 unfold zfE at hp;split at hp
 ·rename_i s1 aK;unfold TSt.frzS at aK;split at aK
  ·rename_i h hfz;cases aK;split at hp
   ·rename_i ht;exact zeY (zay _ _ _ hfz) (inj_ok (ho.trans (Over.push s h)) ht hp)
   ·cases hp
  ·cases aK
 ·cases hp
def Over.inj (m:Mods) (s0:TSt) (x:MK.denL m.ks):Over s0 (inj m s0 x):=⟨⟨_,rfl⟩,_,rfl⟩
def zeN {σ:Type} {X:Option (Sum σ α)} {k:σ->Option α} {r:α} (h:jn X k=some r):(∃ y,X=some (.inl y)∧k y=some r)∨X=some (.inr r):=by
 unfold jn at h;split at h
 ·exact .inl ⟨_,rfl,h⟩
 ·cases h;exact .inr rfl
 ·cases h
def wN {σ:Type} {x:Option σ} {y:Sum σ α} (h:zD x=some y):∃ z,x=some z∧y=.inl z:=by
 cases x with
 | none=>cases h
 | some z=>cases h;exact ⟨z,rfl,rfl⟩
def zaZ {σ:Type} {x:Option α} {y:Sum σ α} (h:zfZ x=some y):∃ z,x=some z∧y=.inr z:=by
 cases x with
 | none=>cases h
 | some z=>cases h;exact ⟨z,rfl,rfl⟩
def zeD {σ:Type} {x:Option σ} {y:LR σ α} (h:nxO x=some y):∃ z,x=some z∧y=.nx z:=by
 cases x with
 | none=>cases h
 | some z=>cases h;exact ⟨z,rfl,rfl⟩
def zeU {σ:Type} {x:Option σ} {y:LR σ α} (h:dnO x=some y):∃ z,x=some z∧y=.dn z:=by
 cases x with
 | none=>cases h
 | some z=>cases h;exact ⟨z,rfl,rfl⟩
def yN {σ:Type} {x:Option α} {y:LR σ α} (h:wj x=some y):∃ z,x=some z∧y=.fin z:=by
 cases x with
 | none=>cases h
 | some z=>cases h;exact ⟨z,rfl,rfl⟩
def nW {σ:Type} {B:σ->Option (LR σ α)} {x:σ} {y:Sum σ α} (h:lpO B x=some y):∃ n,lpN B n x=some y:=by
 unfold lpO at h;split at h
 ·exact ⟨_,h⟩
 ·cases h
def zaN (hC:zW S C):∀ (c:TCode) {α:Type} (s:TSt) (k:AExit->TSt->Option α) (r:α),run C c s k=some r->∃ e s',k e s'=some r∧Ex (za S) c.er s.toA e s'.toA∧Over s s':=by
 intro c
 induction c with
 | skip=>intro α s k r h;exact ⟨_,s,h,.skip _,.refl s⟩
 | ret=>intro α s k r h;exact ⟨_,s,h,.ret _,.refl s⟩
 | exit id=>intro α s k r h;exact ⟨_,s,h,.exit id _,.refl s⟩
 | region ops tys dr =>intro α s k r h;obtain ⟨s',h1,h2,h3⟩:=je hC ops tys s h;exact ⟨_,s',h1,.region h2,h3⟩
 | regionJ m ops tys dr =>
  intro α s k r h;simp only[run] at h;rcases zeN h with ⟨y,h1,h⟩ | h1
  ·obtain ⟨s',h2,h3,h4⟩:=je hC ops tys s h1;obtain ⟨z,hz,e⟩:=wN h2;cases e;exact ⟨_,_,h,.cvR (.region h3) (zap h4 hz),Over.inj m s y⟩
  ·obtain ⟨s',h2,h3,h4⟩:=je hC ops tys s h1;obtain ⟨z,hz,e⟩:=wN h2;cases e
 | seq a b iha ihb =>
  intro α s k r h;simp only[run] at h;obtain ⟨e,s',h1,h2,h3⟩:=iha s _ r h;cases e with
  | norm =>obtain ⟨e2,s2,h4,h5,h6⟩:=ihb s' k r h1;exact ⟨e2,s2,h4,.seqN h2 h5,h3.trans h6⟩
  | exit id=>exact ⟨_,s',h1,.seqE h2 (by simp),h3⟩
  | ret=>exact ⟨_,s',h1,.seqE h2 (by simp),h3⟩
 | cond c a b iha ihb =>
  intro α s k r h;simp only[run] at h;split at h
  ·rename_i x hx;have ec:s.toA.ev c=.v (.bool x):=by rw[zE,hx];rfl
   rcases kF h with ⟨rfl,h⟩ | ⟨rfl,h⟩
   ·obtain ⟨e,s',h1,h2,h3⟩:=iha s k r h;exact ⟨e,s',h1,.cond ec (by simpa using h2),h3⟩
   ·obtain ⟨e,s',h1,h2,h3⟩:=ihb s k r h;exact ⟨e,s',h1,.cond ec (by simpa using h2),h3⟩
  ·cases h
 | condJ m c a b iha ihb =>
  intro α s k r h;simp only[run] at h;split at h
  ·rename_i x hx;have ec:s.toA.ev c=.v (.bool x):=by rw[zE,hx];rfl
   have main:∀ (t:Bool) (c':TCode),(c'=if t then a else b)->x=t->∀ (X:Sum (MK.denL m.ks) α),run C c' s (fun e s'=>match e with | .norm=>(zD (zfE m s s'):Option (Sum (MK.denL m.ks) α)) | e=>zfZ (k e s'))=some X ->
     (∀ {β:Type} (s:TSt) (k:AExit->TSt->Option β) (r:β),run C c' s k=some r->∃ e s',k e s'=some r∧Ex (za S) c'.er s.toA e s'.toA∧Over s s') ->
     (∀ y,X=.inl y->k .norm (Ab.inj m s y)=some r->∃ e s',k e s'=some r∧Ex (za S) (.cond c a.er b.er) s.toA e s'.toA∧Over s s')∧(X=.inr r->∃ e s',k e s'=some r∧Ex (za S) (.cond c a.er b.er) s.toA e s'.toA∧Over s s'):=by
    intro t c' dV ht X hX ih;subst ht;obtain ⟨e,s',h1,h2,h3⟩:=ih s _ X hX;have hex:Ex (za S) (.cond c a.er b.er) s.toA e s'.toA:=.cond ec (by subst dV;cases x<;>simpa using h2);cases e with
    | norm =>obtain ⟨z,hz,rfl⟩:=wN h1;refine ⟨fun y hy hk => ?_,fun hy=>nomatch hy⟩;cases hy;exact ⟨_,_,hk,.cvR hex (zap h3 hz),Over.inj m s z⟩
    | exit id =>obtain ⟨z,hz,rfl⟩:=zaZ h1;exact ⟨fun y hy=>(nomatch hy),fun hy=>by cases hy;exact ⟨_,s',hz,hex,h3⟩⟩
    | ret =>obtain ⟨z,hz,rfl⟩:=zaZ h1;exact ⟨fun y hy=>(nomatch hy),fun hy=>by cases hy;exact ⟨_,s',hz,hex,h3⟩⟩
   rcases zeN h with ⟨y,h1,h⟩ | h1
   ·rcases kF h1 with ⟨bg,h1⟩ | ⟨bg,h1⟩
    ·exact (main true a rfl bg _ h1 iha).1 y rfl h
    ·exact (main false b rfl bg _ h1 ihb).1 y rfl h
   ·rcases kF h1 with ⟨bg,h1⟩ | ⟨bg,h1⟩
    ·exact (main true a rfl bg _ h1 iha).2 rfl
    ·exact (main false b rfl bg _ h1 ihb).2 rfl
  ·cases h
 | block id b ih =>
  intro α s k r h;simp only[run] at h;obtain ⟨e,s',h1,h2,h3⟩:=ih s _ r h;cases e with
  | norm=>exact ⟨_,s',h1,.blockO h2 (by simp),h3⟩
  | ret=>exact ⟨_,s',h1,.blockO h2 (by simp),h3⟩
  | exit i =>
   simp only at h1;split at h1
   ·rename_i hb;rw[zB] at hb;subst hb;exact ⟨_,s',h1,.blockX h2,h3⟩
   ·rename_i hb;have ah:i≠id:=fun e=>by subst e;rw[AG] at hb;cases hb
    exact ⟨_,s',h1,.blockO h2 (by simpa using ah),h3⟩
 | blockJ m id b ih =>
  intro α s k r h;simp only[run] at h;have main:∀ (X:Sum (MK.denL m.ks) α),run C b s (fun e s'=>match e with
   | .norm=>(zD (zfE m s s'):Option (Sum (MK.denL m.ks) α))
   | .exit i=>(match Nat.beq i id with | true=>zD (zfE m s s') | false=>zfZ (k (.exit i) s'))
   | .ret=>zfZ (k .ret s'))=some X ->
    (∀ y,X=.inl y->k .norm (Ab.inj m s y)=some r->∃ e s',k e s'=some r∧Ex (za S) (.block id b.er) s.toA e s'.toA∧Over s s')∧(X=.inr r->∃ e s',k e s'=some r∧Ex (za S) (.block id b.er) s.toA e s'.toA∧Over s s'):=by
   intro X hX;obtain ⟨e,s',h1,h2,h3⟩:=ih s _ X hX;cases e with
   | norm =>obtain ⟨z,hz,rfl⟩:=wN h1;refine ⟨fun y hy hk => ?_,fun hy=>nomatch hy⟩;cases hy;exact ⟨_,_,hk,.cvR (.blockO h2 (by simp)) (zap h3 hz),Over.inj m s z⟩
   | ret =>obtain ⟨z,hz,rfl⟩:=zaZ h1;exact ⟨fun y hy=>(nomatch hy),fun hy=>by cases hy;exact ⟨_,s',hz,.blockO h2 (by simp),h3⟩⟩
   | exit i =>
    simp only at h1;split at h1
    ·rename_i hb;rw[zB] at hb;subst hb;obtain ⟨z,hz,rfl⟩:=wN h1;refine ⟨fun y hy hk => ?_,fun hy=>nomatch hy⟩;cases hy;exact ⟨_,_,hk,.cvR (.blockX h2) (zap h3 hz),Over.inj m s z⟩
    ·rename_i hb;have ah:i≠id:=fun e=>by subst e;rw[AG] at hb;cases hb
     obtain ⟨z,hz,rfl⟩:=zaZ h1;exact ⟨fun y hy=>(nomatch hy),fun hy=>by cases hy;exact ⟨_,s',hz,.blockO h2 (by simpa using ah),h3⟩⟩
  rcases zeN h with ⟨y,h1,h⟩ | h1
  ·exact (main _ h1).1 y rfl h
  ·exact (main _ h1).2 rfl
 | loop m id b ih =>
  intro α s k r h;simp only[run] at h;split at h
  ·cases h
  ·rename_i x0 az;have pre:(za S).cv s.toA (Ab.inj m s x0).toA:=zap (.refl s) az;have rounds:∀ (n:Nat) (x:MK.denL m.ks) (X:Sum (MK.denL m.ks) α),lpN (fun x=>run C b (Ab.inj m s x) fun e s'=>match e with
    | .norm=>(nxO (zfE m s s'):Option (LR (MK.denL m.ks) α))
    | .exit i=>(match Nat.beq i id with | true=>dnO (zfE m s s') | false=>wj (k (.exit i) s'))
    | .ret=>wj (k .ret s')) n x=some X ->
     (∀ y,X=.inl y->Ex (za S) (.loop b.er) (Ab.inj m s x).toA (.exit id) (Ab.inj m s y).toA)∧(∀ a,X=.inr a->∃ e s',k e s'=some a∧e≠.exit id∧Ex (za S) (.loop b.er) (Ab.inj m s x).toA e s'.toA∧Over s s'):=by
    intro n
    induction n with
    | zero=>intro x X h;cases h
    | succ n ihn =>
     intro x X h;simp only[lpN] at h;split at h
     ·rename_i y hy;obtain ⟨e,s',h1,h2,h3⟩:=ih (Ab.inj m s x) _ _ hy;have ho:=(Over.inj m s x).trans h3;have hn:e=.norm∧zfE m s s'=some y:=by
       cases e with
       | norm=>obtain ⟨z,hz,e⟩:=zeD h1;cases e;exact ⟨rfl,hz⟩
       | ret=>obtain ⟨z,hz,e⟩:=yN h1;cases e
       | exit i =>
        simp only at h1;split at h1
        ·obtain ⟨z,hz,e⟩:=zeU h1;cases e
        ·obtain ⟨z,hz,e⟩:=yN h1;cases e
      obtain ⟨rfl,hz⟩:=hn;have h4:Ex (za S) b.er (Ab.inj m s x).toA .norm (Ab.inj m s y).toA:=.cvR h2 (zap ho hz);obtain ⟨k1,k2⟩:=ihn y X h;exact ⟨fun y' eE=>.loopN h4 (k1 y' eE),fun a ha=>by
       obtain ⟨e,s2,j1,j2,j3,j4⟩:=k2 a ha;exact ⟨e,s2,j1,j2,.loopN h4 j3,j4⟩⟩
     ·rename_i y hy;cases h;obtain ⟨e,s',h1,h2,h3⟩:=ih (Ab.inj m s x) _ _ hy;have ho:=(Over.inj m s x).trans h3;have hn:e=.exit id∧zfE m s s'=some y:=by
       cases e with
       | norm=>obtain ⟨z,hz,e⟩:=zeD h1;cases e
       | ret=>obtain ⟨z,hz,e⟩:=yN h1;cases e
       | exit i =>
        simp only at h1;split at h1
        ·rename_i hb;rw[zB] at hb;subst hb;obtain ⟨z,hz,e⟩:=zeU h1;cases e;exact ⟨rfl,hz⟩
        ·obtain ⟨z,hz,e⟩:=yN h1;cases e
      obtain ⟨rfl,hz⟩:=hn;exact ⟨fun y' eE=>(by cases eE;exact .loopE (.cvR h2 (zap ho hz)) (by simp)),fun a ha=>nomatch ha⟩
     ·rename_i a hy;cases h;obtain ⟨e,s',h1,h2,h3⟩:=ih (Ab.inj m s x) _ _ hy;have ho:=(Over.inj m s x).trans h3;refine ⟨fun y' eE=>(nomatch eE),fun a' cR => ?_⟩;cases cR;cases e with
      | norm=>obtain ⟨z,hz,e⟩:=zeD h1;cases e
      | ret=>obtain ⟨z,hz,e⟩:=yN h1;cases e;exact ⟨_,s',hz,by simp,.loopE h2 (by simp),ho⟩
      | exit i =>
       simp only at h1;split at h1
       ·obtain ⟨z,hz,e⟩:=zeU h1;cases e
       ·rename_i hb;have ah:i≠id:=fun e=>by subst e;rw[AG] at hb;cases hb
        obtain ⟨z,hz,e⟩:=yN h1;cases e;exact ⟨_,s',hz,by simpa using ah,.loopE h2 (by simp),ho⟩
     ·cases h
   rcases zeN h with ⟨y,h1,h⟩ | h1
   ·obtain ⟨n,hn⟩:=nW h1;exact ⟨_,_,h,.cv pre (.blockX ((rounds n x0 _ hn).1 y rfl)),Over.inj m s y⟩
   ·obtain ⟨n,hn⟩:=nW h1;obtain ⟨e,s',j1,j2,j3,j4⟩:=(rounds n x0 _ hn).2 r rfl;exact ⟨e,s',j1,.cv pre (.blockO j3 j2),j4⟩
end
end
section
open Go Go.RowKit
section
variable {S:Seat} {C:List CSpec}
def enc_arg {sh:Sh} (ha:sh.arg=true) (x:sh.den):Av [] (enc sh x)=encA sh x∧zm (encA sh x)=false:=by
 have two:∀ (sh:Sh) (x:sh.den),sh.ans1=true->sh.own1=false->A2 [] (enc sh x)=encA sh x∧zy [] (enc sh x)=true:=by
  intro sh x h1 h2;have g:(∀ t,sh≠.own t)∧(∀ f l,sh≠.fnc f l)∧(∀ l,sh≠.tp l)∧sh≠.unit:=(by refine ⟨fun t e => ?_,fun f l e => ?_,fun l e => ?_,fun e => ?_⟩<;>(subst e;first | (simp[Sh.own1] at h2;done) | (simp[Sh.ans1] at h1;done)))
  obtain ⟨e1,e2,_⟩:=zbX g.1 g.2.1 g.2.2.1 g.2.2.2 x [];exact ⟨by rw[A2,e1,e2],by rw[← e1];exact jM _ _⟩
 cases sh with
 | own t=>simp[Sh.arg] at ha
 | tp l=>simp[Sh.arg] at ha
 | unit=>simp[Sh.arg] at ha
 | fnc f caps =>
  simp only[Sh.arg] at ha;refine ⟨?_,rfl⟩;have all:∀ (l:List Sh) (x:Sh.denL l),(l.all fun s=>s.ans1 && !s.own1)=true->(jE l x).all (zy [])=true∧(jE l x).map (A2 [])=encAL l x:=by
   intro l
   induction l with
   | nil=>intro x _;exact ⟨rfl,rfl⟩
   | cons sh l ih =>
    intro x h;simp only[AR,Ak,AJ] at h;cases l with
    | nil =>obtain ⟨k1,k2⟩:=two sh x h.1.1 h.1.2;exact ⟨by simp[jE,k2],by simp[jE,encAL,k1]⟩
    | cons bt l =>obtain ⟨k1,k2⟩:=two sh x.1 h.1.1 h.1.2;obtain ⟨k3,k4⟩:=ih x.2 h.2;exact ⟨by simp only[jE,AR,k2,k3,Cf],by simp only[jE,encAL,An,k1,k4]⟩
  obtain ⟨k1,k2⟩:=all caps x ha;simp only[enc,encA];rw[zaH,if_pos k1,k2]
 | err=>exact ⟨rfl,by cases x<;>rfl⟩
 | ns t=>cases x<;>exact ⟨rfl,rfl⟩
 | st t =>refine ⟨?_,rfl⟩;obtain ⟨k1,_⟩:=two (.st t) x rfl rfl;rw[← k1];show Av [] (.ag (tvs t x))=A2 [] (.ag (tvs t x));rw[dX,yc]
 | _=>exact ⟨rfl,rfl⟩
def zcX:∀ (sig:List Sh) (x:Sh.denL sig),sig.all Sh.arg=true->(jE sig x).map (Av [])=encAL sig x∧(∀ y∈encAL sig x,zm y=false)∧(encAL sig x).length=sig.length:=by
 intro sig
 induction sig with
 | nil=>intro x _;exact ⟨rfl,by simp[encAL],rfl⟩
 | cons sh l ih =>
  intro x h;simp only[AR,Ak] at h;cases l with
  | nil =>obtain ⟨k1,k2⟩:=enc_arg h.1 x;exact ⟨by simp[jE,encAL,k1],by simp[encAL,k2],rfl⟩
  | cons bt l =>
   obtain ⟨k1,k2⟩:=enc_arg h.1 x.1;obtain ⟨k3,k4,k5⟩:=ih x.2 h.2;refine ⟨by simp only[jE,encAL,An,k1,k3],fun y hy => ?_,by simp only[encAL,AK,k5]⟩;simp only[encAL] at hy;rcases Aq.1 hy with rfl | hy
   ·exact k2
   ·exact k4 y hy
def frT_fr (muts:List Nat):∀ (i:Nat) (vs:List TV) (k:Nat),(∀ y∈vs.map (Av []),zm y=false)->Av [] (look k .bot (frT i vs))=qe muts i (vs.map (Av [])) k
 | _,[],_,_=>rfl
 | i,v :: vs,k,h=>by
  have h0:=h (Av [] v) (by simp);have ih:=frT_fr muts (i+1) vs k fun y hy=>h y (by simp at hy ⊢;exact .inr hy);simp only[frT,zf,An,qe,upd];by_cases hk:i=k
  ·subst hk;simp only[if_true];cases hx:Av [] v with
   | own z es=>rw[hx] at h0;simp[zm] at h0
   | _=>rfl
  ·rw[if_neg hk,if_neg (Ne.symm hk)];exact ih
def zga {sig:List Sh} (x:Sh.denL sig) (h:sig.all Sh.arg=true):enter [] (encAL sig x)=(zbU sig x).toA:=by obtain ⟨k1,k2,_⟩:=zcX sig x h;have e1:(zbU sig x).toA.fr=(enter [] (encAL sig x)).fr:=(by funext k;show Av [] (look k .bot (frT 0 (jE sig x)))=qe [] 0 (encAL sig x) k;rw[← k1];exact frT_fr [] 0 _ k (by rw[k1];exact k2));have e2:(zbU sig x).toA.hp=(enter [] (encAL sig x)).hp:=(by show _=zK [] 0 (encAL sig x);rw[qH [] 0 _ k2];rfl);show (⟨(enter [] (encAL sig x)).fr,(enter [] (encAL sig x)).hp⟩:ASt)=⟨(zbU sig x).toA.fr,(zbU sig x).toA.hp⟩;rw[e1,e2]
def fit_ok (l:List AV) (h:∀ y∈l,zm y=false):∀ i,qi [] i l=true:=by
 induction l with
 | nil=>intro i;rfl
 | cons a l ih =>intro i;simp only[qi,zj,h a Ah,BJ,Ci,B9,beq_self_eq_true,A4];exact ih (fun y hy=>h y (Ad _ hy)) _
def zes {s:TSt} {ar:ARes} {v:TV} (h:zjo s ar=some v):q8 s.toA ar=some (av s.hp v)∧lv s.hp v=v:=by
 cases ar with
 | tmp t =>simp only[zjo,Option.some.injEq] at h;subst h;exact ⟨by simp only[q8];exact congrArg some (zE s (.t t)),wl s _⟩
 | cell t n =>
  simp only[zjo] at h;split at h
  ·rename_i t' y off hx;obtain ⟨e1,e2⟩:=ye hx;obtain ⟨t1,t2⟩:=zbE t' y s.hp;obtain ⟨p1,p2⟩:=yY (h:=s.hp) (fun y hy=>j7 (t2 y hy).1) h;rw[t1] at p1;have e3:s.toA.fr t=.ep (t'.cells y) off:=e1;exact ⟨by simp only[q8,e3,cellsAt,p1],p2⟩
  ·rename_i r off hx;obtain ⟨e1,e2⟩:=ye hx;split at h
   ·rename_i cs hl;obtain ⟨p1,p2⟩:=yY (h:=s.hp) (fun y hy=>by obtain ⟨z,hz,rfl⟩:=Ap.1 hy;exact yn _ z) h;rw[AU] at p1;have e3:s.toA.fr t=.pv r off:=e1;refine ⟨?_,p2⟩;simp only[q8,e3,cellsAt,zN,hl,blk];exact p1
   ·cases h
  ·rename_i r v' i off hx;obtain ⟨e1,e2⟩:=ye hx;split at h
   ·rename_i cZ t' xs hl;split at h
    ·rename_i y hy;obtain ⟨t1,t2⟩:=zbE t' y s.hp;obtain ⟨p1,p2⟩:=yY (h:=s.hp) (fun y hy=>j7 (t2 y hy).1) h;rw[t1] at p1;have e3:s.toA.fr t=.pe r t'.z i off:=by have:=e1;rw[zhD hl] at this;exact this
     refine ⟨?_,p2⟩;simp only[q8,e3,cellsAt,zN,hl,blk,if_true,Aw,hy,AE];exact p1
    ·cases h
   ·cases h
  ·cases h
def refs_eq {h:THp} {x:TV} (hl:lv h x=x):(av h x).refs=rf x:=by
 have one:∀ y,lv1 h y=y->(av1 h y).refs=rf1 y:=by
  intro y hy;cases y with
  | e x=>cases x<;>simp[av1,Err.av,AV.refs,aI,rf1]
  | ns t x=>cases x<;>simp[av1,AV.refs,aN,rf1]
  | lw s v=>obtain ⟨t,xs,hq⟩:=zbG hy;simp[av1,hq,AV.refs,rf1]
  | ls s v off len=>obtain ⟨t,xs,hq⟩:=sl_ls hy;simp[av1,hq,AV.refs,rf1]
  | pe s v i off=>obtain ⟨t,xs,hq⟩:=ziI hy;simp[av1,hq,AV.refs,rf1]
  | pv s off=>rfl
  | _=>simp[av1,AV.refs,aI,aU,aB,aS,aN,ud,rf1]
 have lst:∀ (l:List TV) (f:TV->AV) (g:TV->List Nat),(∀ y∈l,(f y).refs=g y)->AV.refsL (l.map f)=l.flatMap g:=by
  intro l f g
  induction l with
  | nil=>intro _;rfl
  | cons a l ih=>intro h;simp only[An,AV.refsL,Cb,h a Ah,ih fun y hy=>h y (Ad _ hy)]
 have two:∀ y,lv2 h y=y->(av2 h y).refs=rf2 y:=by
  intro y hy;cases y with
  | ag cs=>simp only[av2,AV.refs,rf2];exact lst _ _ _ fun z hz=>one z (zfU hy z hz)
  | _=>exact one _ (by simpa only[lv2] using hy)
 cases x with
 | tp cs=>simp only[av,AV.refs,rf];exact lst _ _ _ fun z hz=>two z (lv_tp hl z hz)
 | fn f cs=>simp only[av,AV.refs,rf];exact lst _ _ _ fun z hz=>two z (lv_fn hl z hz)
 | ag cs=>exact two (.ag cs) hl
 | _=>exact two _ (by simpa only[lv] using hl)
def zcc {h:THp} (l:List TV) (hl:∀ y∈l,lv h y=y):AV.refsL (l.map (av h))=l.flatMap rf:=by
 induction l with
 | nil=>rfl
 | cons a l ih=>simp only[An,AV.refsL,Cb,refs_eq (hl a Ah),ih fun y hy=>hl y (Ad _ hy)]
def zgO {hp:Nat->Option Blk} {x a:AV} (h:qm hp x=some a) (hx:qy x=true):zm a=false∧qy a=true:=by
 have s1:∀ {x a:AV},qn hp x=some a->qy x=true->zm a=false∧qy a=true:=by
  intro x a h hx;cases x with
  | tup=>simp[qy] at hx
  | own z es=>simp[qn] at h
  | pe s z i off=>simp only[qn] at h;repeat' split at h
                  all_goals (first | (cases h;exact ⟨rfl,rfl⟩) | cases h)
  | lsl s z off len=>simp only[qn] at h;repeat' split at h
                     all_goals (first | (cases h;exact ⟨rfl,rfl⟩) | cases h)
  | _=>simp only[qn] at h;repeat' split at h
       all_goals (first | (cases h;exact ⟨rfl,rfl⟩) | cases h)
 cases x with
 | tup=>simp[qy] at hx
 | pv s off=>simp only[qm] at h;repeat' split at h
             all_goals (first | (cases h;exact ⟨rfl,rfl⟩) | cases h)
 | agg cs=>simp only[qm] at h;repeat' split at h
           all_goals (first | (cases h;exact ⟨rfl,rfl⟩) | cases h)
 | _=>simp only[qm] at h;exact s1 h hx
def zjb {sh:Sh} {v:TV} {x:sh.den} (ha:sh.ans1=true) (h:dec [] sh v=some x):rf v=[]:=by
 cases sh with
 | int=>obtain rfl:=zZ h;rfl
 | u8=>obtain rfl:=zhp h;rfl
 | bool=>obtain rfl:=iw h;rfl
 | str=>obtain rfl:=yx h;rfl
 | err=>obtain rfl:=zhq h;rfl
 | unit=>simp[Sh.ans1] at ha
 | sl t =>simp only[dec] at h;obtain ⟨_,_,_,k4,_,k6⟩:=wP h [];obtain ⟨s1,s2⟩:=wW k6;rw[s1] at k4;cases v<;>first | exact s2 | (simp[leaf] at k4;done)
 | ns t =>simp only[dec] at h;obtain ⟨_,_,k4,_,k6⟩:=zij h [];obtain ⟨s1,s2⟩:=wW k6;rw[s1] at k4;cases v<;>first | exact s2 | (simp[leaf] at k4;done)
 | st t =>
  simp only[dec] at h;split at h
  ·rename_i cs;have hu:=yU h [];simp only[rf,rf2];exact A7.2 fun y hy=>(wW (hu.flat _ (Ap.2 ⟨y,hy,rfl⟩)).2.2.2).2
  ·cases h
 | bx t =>
  simp only[dec] at h;split at h
  ·rfl
  ·simp[look] at h
  ·cases h
 | own t=>simp[dec] at h
 | fnc=>simp[Sh.ans1] at ha
 | tp=>simp[Sh.ans1] at ha
def zcS {own:Bool} {s:TSt} {sh:Sh} {v:TV} {x:sh.den} (ha:sh.ans1=true) (hl:lv s.hp v=v) (h:exp1 own s.hp sh v=some x) :
  ∃ a,(if own=true then zS s.toA (av s.hp v) else qm s.toA.hp (av s.hp v))=some a∧RW1 a (encA sh x)∧qy a=true∧qy (encA sh x)=true:=by
 have nt:qy (encA sh x)=true:=by
  cases sh with
  | tp=>simp[Sh.ans1] at ha
  | unit=>simp[Sh.ans1] at ha
  | err=>cases x<;>rfl
  | ns=>cases x<;>rfl
  | _=>rfl
 by_cases ho:∃ t,sh=.own t
 ·obtain ⟨t,rfl⟩:=ho;simp only[exp1] at h;cases own with
  | false=>cases h
  | true =>
   simp only at h;split at h
   ·rename_i r v';split at h
    ·rename_i cZ t' xs hb hq;obtain ⟨rfl,rfl⟩:=zJ h;refine ⟨.own t'.z (List.map t'.cells x), ?_,.inl rfl,rfl,rfl⟩;rw[if_pos rfl,dY hq];simp only[zS,zN,hq,blk];rw[if_pos ⟨True.intro,by simp,by simpa using hb⟩]
    ·cases h
   ·cases h;exact ⟨aN,rfl,.inr (.inr ⟨rfl,t.z,rfl⟩),rfl,rfl⟩
   ·cases h
 ·have bC:∀ t,sh≠.own t:=fun t e=>ho ⟨t,e⟩;have h':(match (generalizing:=false) own with | true=>dec [] sh v | false=>dec s.hp sh v)=some x:=by
   cases sh with
   | own t=>exact absurd rfl (bC t)
   | _=>exact h
  have n2:zm (encA sh x)=false:=by
   cases sh with
   | own t=>exact absurd rfl (bC t)
   | err=>cases x<;>rfl
   | ns=>cases x<;>rfl
   | _=>rfl
  -- not a tuple,not a function
  have oH:∀ hp,dec hp sh v=some x->lv2 s.hp v=v:=by
   intro hp hd;cases v with
   | tp vs=>cases sh<;>first | (simp[Sh.ans1] at ha;done) | (simp[dec,dI,dU,dB,dS,dE,ql,dSl,dNs] at hd;done)
   | fn f vs=>cases sh<;>first | (simp[Sh.ans1] at ha;done) | (simp[dec,dI,dU,dB,dS,dE,ql,dSl,dNs] at hd;done)
   | _=>exact hl
  cases own with
  | false =>
   have hv:=oH _ h';obtain ⟨a,k1,k2⟩:=zeX hv h';have e:av s.hp v=av2 s.hp v:=by cases v<;>first | rfl | simp[lv2,lv1] at hv
   have ew:qy (av2 s.hp v)=true:=by
    cases v with
    | tp=>simp[lv2,lv1] at hv
    | e x=>cases x<;>rfl
    | ns t x=>cases x<;>rfl
    | lw r v=>obtain ⟨t,xs,hq⟩:=zbG hv;simp[av2,av1,hq,qy]
    | ls r v off len=>obtain ⟨t,xs,hq⟩:=sl_ls hv;simp[av2,av1,hq,qy]
    | pe r v i off=>obtain ⟨t,xs,hq⟩:=ziI hv;simp[av2,av1,hq,qy]
    | _=>rfl
   obtain ⟨s1,s2⟩:=zgO k1 ew;exact ⟨a,by rw[if_neg (by simp),e];exact k1,.inr (.inl ⟨s1,n2,k2⟩),s2,nt⟩
  | true =>
   have hv:=oH _ h';have e:av s.hp v=av2 s.hp v:=by cases v<;>first | rfl | simp[lv2,lv1] at hv
   obtain ⟨k1,k2⟩:=decW2 (N:=fun _=>False) hv h' s.hp;have g:(∀ f l,sh≠.fnc f l)∧(∀ l,sh≠.tp l)∧sh≠.unit:=(by refine ⟨fun f l e => ?_,fun l e => ?_,fun e => ?_⟩<;>(subst e;simp[Sh.ans1] at ha))
   obtain ⟨_,e2,_⟩:=zbX bC g.1 g.2.1 g.2.2 x s.hp;rw[e2] at k2;have hr:(av s.hp v).refs=[]:=by rw[refs_eq hl];exact zjb ha h'
   have ew:qy (av2 s.hp v)=true∧zm (av2 s.hp v)=false:=by
    cases v with
    | tp=>simp[lv2,lv1] at hv
    | e x=>cases x<;>exact ⟨rfl,rfl⟩
    | ns t x=>cases x<;>exact ⟨rfl,rfl⟩
    | lw r v=>obtain ⟨t,xs,hq⟩:=zbG hv;simp[av2,av1,hq,qy,zm]
    | ls r v off len=>obtain ⟨t,xs,hq⟩:=sl_ls hv;simp[av2,av1,hq,qy,zm]
    | pe r v i off=>obtain ⟨t,xs,hq⟩:=ziI hv;simp[av2,av1,hq,qy,zm]
    | _=>exact ⟨rfl,rfl⟩
   exact ⟨av2 s.hp v,by rw[if_pos rfl,wO hr,e],.inr (.inl ⟨ew.2,n2,k2⟩),ew.1,nt⟩
def zhh {own:Bool} {s:TSt}:∀ (l:List Sh) (vs:List TV) (x:Sh.denL l),l.all Sh.ans1=true->(∀ v∈vs,lv s.hp v=v)->expL own s.hp l vs=some x ->
  ∃ as,zb (fun a=>if own=true then zS s.toA a else qm s.toA.hp a) (vs.map (av s.hp))=some as∧as.length=(encAL l x).length∧as.length=vs.length∧(∀ (i:Nat) (a b:AV),as[i]? = some a->(encAL l x)[i]? = some b->RW1 a b):=by
 intro l
 induction l with
 | nil =>
  intro vs x _ _ h;cases vs with
  | nil=>exact ⟨[],rfl,rfl,rfl,by simp⟩
  | cons=>simp[expL] at h
 | cons sh l ih =>
  intro vs x ha hl h;simp only[AR,Ak] at ha;cases l with
  | nil =>
   match vs with
   | []=>simp[expL] at h
   | [v] =>
    simp only[expL] at h;obtain ⟨a,k1,k2,_⟩:=zcS ha.1 (hl v (by simp)) h;refine ⟨[a],by simp only[An,A3,zb];rw[k1],rfl,rfl,fun i a' b cR hb => ?_⟩;cases i with
    | zero=>simp[encAL] at cR hb;subst cR;subst hb;exact k2
    | succ i=>simp at cR
   | _ :: _ :: _=>simp[expL] at h
  | cons bt l =>
   cases vs with
   | nil=>simp[expL] at h
   | cons v vs =>
    simp only[expL] at h;split at h
    ·rename_i a b h1 h2;cases h;obtain ⟨a',k1,k2,_⟩:=zcS ha.1 (hl v (by simp)) h1;obtain ⟨as,m1,m2,m3,m4⟩:=ih vs b ha.2 (fun v hv=>hl v (Ad _ hv)) h2;refine ⟨a' :: as, ?_,by simp only[encAL,AK,m2],by simp[m3],fun i c d hc hd => ?_⟩
     ·simp only[An,zb];rw[k1];rw[m1]
     ·simp only[encAL] at hd;cases i with
      | zero=>simp at hc hd;subst hc;subst hd;exact k2
      | succ i=>simp only[AN] at hc hd;exact m4 i c d hc hd
    ·cases h
noncomputable def TFunc.runFrom (C:List CSpec) (f:TFunc) (s0:TSt) (rs:Sh):Option rs.den :=
 Ab.run C f.body s0 fun e s=>match e with
  | .exit _=>none
  | _=>match zb (zjo s) f.res with | some vs=>(match !f.own || zC (vs.flatMap rf) with | true=>zgC f.own s.hp rs vs | false=>none) | none=>none
def tfun_pred (hC:zW S C) {f:TFunc} (hm:f.muts=[]) {s0:TSt} {rs:Sh} {y:rs.den} {Q:AV->Prop} (hQ:∀ e s' r,Ex (za S) f.body.er s0.toA e s'->(e=.norm∨e=.ret)->qo f.own f.muts f.res s'=some (r,[])->Q r) (w1:∀ {x y:AV},qy x=true->qy y=true->RW1 x y->Q x->Q y)
  (wL:∀ {xs ys:List AV},xs.length=ys.length->(∀ (i:Nat) (x y:AV),xs[i]? = some x->ys[i]? = some y->RW1 x y)->Q (.tup xs)->Q (.tup ys)) (h3:rs.ans=true)
  (h:f.runFrom C s0 rs=some y):Q (encA rs y):=by
 unfold TFunc.runFrom at h;obtain ⟨e,s,hk,hex,_⟩:=zaN (S:=S) hC f.body _ _ _ h;have he:e=.norm∨e=.ret:=by
  cases e with
  | norm=>exact .inl rfl
  | ret=>exact .inr rfl
  | exit i=>cases hk
 have au:(match zb (zjo s) f.res with | some vs=>(match !f.own || zC (vs.flatMap rf) with | true=>zgC f.own s.hp rs vs | false=>none) | none=>none)=some y:=(by rcases he with rfl | rfl<;>exact hk)
 split at au
 ·rename_i vs bR;split at au
  ·rename_i hnd;have aE:zb (q8 s.toA) f.res=some (vs.map (av s.hp))∧∀ v∈vs,lv s.hp v=v:=jR (fun a _ v hv=>zes hv) bR
   have body:∀ r,(if f.own=true then (if zC (AV.refsL (vs.map (av s.hp)))=true then (match zb (zS s.toA) (vs.map (av s.hp)) with | some ys=>some (zH ys) | none=>none) else none) else (match zb (qm s.toA.hp) (vs.map (av s.hp)) with | some ys=>some (zH ys) | none=>none))=some r ->
     Q r:=by
    intro r hr;refine hQ e s.toA r hex he ?_
    ·show qo f.own f.muts f.res s.toA=some (r,[]);rw[hm];unfold qo;rw[aE.1];simp only;cases ho:f.own with
     | true =>
      rw[ho] at hr;simp only[if_true,and_true] at hr ⊢;split at hr
      ·rename_i hn;rw[if_pos hn];split at hr
       ·rename_i ys hy;cases hr;rw[hy]
       ·cases hr
      ·cases hr
     | false =>
      rw[ho] at hr;simp only[Am,if_false,if_true] at hr ⊢;split at hr
      ·rename_i ys hy;cases hr;rw[hy]
      ·cases hr
   have exp:∀ as,zb (fun a=>if f.own=true then zS s.toA a else qm s.toA.hp a) (vs.map (av s.hp))=some as->Q (zH as):=by
    intro as ha;refine body _ ?_;cases ho:f.own with
    | true =>
     rw[ho] at ha hnd;simp only[if_true] at ha ⊢;have hn:zC (AV.refsL (vs.map (av s.hp)))=true:=by rw[zcc vs aE.2];simpa using hnd
     rw[if_pos hn,ha]
    | false =>rw[ho] at ha;simp only[Am,if_false] at ha ⊢;rw[ha]
   -- by the answer's shape
   have single:rs.ans1=true->(∃ v,vs=[v]∧exp1 f.own s.hp rs v=some y)->Q (encA rs y):=(by rintro ha ⟨v,rfl,hv⟩;obtain ⟨a,k1,k2,k3,k4⟩:=zcS ha (aE.2 v (by simp)) hv;have:=exp [a] (by simp only[An,A3,zb];rw[k1]);exact w1 k3 k4 k2 this);cases rs with
   | tp l =>
    simp only[zgC] at au;split at au
    ·rename_i v1 v2 gP;obtain ⟨as,m1,m2,m3,m4⟩:=zhh l _ y h3 aE.2 au;have:=exp as m1;have e2:zH as=.tup as:=by
      match as,m3 with
      | _ :: _ :: _,_=>rfl
      | [_],h=>simp at h
      | [],h=>simp at h
     rw[e2] at this;exact wL m2 m4 this
    ·cases au
   | unit =>
    simp only[zgC] at au;split at au
    ·exact exp [] rfl
    ·cases au
   | fnc f l=>simp[Sh.ans] at h3
   | _ =>
    simp only[zgC] at au;split at au
    ·exact single rfl ⟨_,rfl,au⟩
    ·cases au
  ·cases au
 ·cases au
def ziF {G:Nat->Option AFunc} (hM:Ok G (za S)) (hC:zW S C) {id:Nat} {f:TFunc} (hf:G id=some f.er) (hm:f.muts=[]) {sig:List Sh} {rs:Sh} (h1:sig.all Sh.arg=true) (h2:sig.length=f.np) (h3:rs.ans=true) {x:Sh.denL sig} {y:rs.den}
  (h:f.run C sig rs x=some y):(za S).ret id (encAL sig x) (encA rs y) []:=by
 obtain ⟨a1,a2,a3⟩:=zcX sig x h1;refine tfun_pred hC hm (s0:=zbU sig x) (Q:=fun r=>(za S).ret id (encAL sig x) r []) (fun e s' r hex he hr=>hM id f.er _ r [] hf ⟨by rw[a3,h2];rfl,by show qi f.muts 0 _=true;rw[hm];exact fit_ok _ a2 0,e,s', ?_,he,hr⟩) (fun a b c d=>zer a b c d) (fun a b d=>ret_rwL a b d) h3 h;show Ex _ f.body.er (enter f.muts (encAL sig x)) e s';rw[hm,zga x h1];exact hex
end
end
section
open Go Go.RowKit
section
variable {S:Seat} {C:List CSpec}
def zed {hd:Bool} {sh:Sh} (h:sh.argM hd=true):(hd=true∧∃ t,sh=.own t)∨(hd=false∧(∀ t,sh≠.own t)∧((∃ f l,sh=.fnc f l∧(l.all fun s=>s.ans1 && !s.own1)=true)∨((∀ f l,sh≠.fnc f l)∧(∀ l,sh≠.tp l)∧sh≠.unit))):=by
 cases sh with
 | own t=>exact .inl ⟨by simpa[Sh.argM] using h,t,rfl⟩
 | tp l=>simp[Sh.argM] at h
 | unit=>simp[Sh.argM] at h
 | fnc f l =>simp only[Sh.argM,Ak,AJ] at h;exact .inr ⟨h.1,by simp,.inl ⟨f,l,rfl,h.2⟩⟩
 | _=>exact .inr ⟨by simpa[Sh.argM] using h,by simp,.inr ⟨by simp,by simp,by simp⟩⟩
def enc_fnc {f:Nat} {caps:List Sh} (ha:(caps.all fun s=>s.ans1 && !s.own1)=true) (x:(Sh.fnc f caps).den) (H:THp):Av H (enc (.fnc f caps) x)=encA (.fnc f caps) x:=by
 have two:∀ (sh:Sh) (x:sh.den),sh.ans1=true->sh.own1=false->A2 H (enc sh x)=encA sh x∧zy H (enc sh x)=true:=by
  intro sh x h1 h2;have g:(∀ t,sh≠.own t)∧(∀ f l,sh≠.fnc f l)∧(∀ l,sh≠.tp l)∧sh≠.unit:=(by refine ⟨fun t e => ?_,fun f l e => ?_,fun l e => ?_,fun e => ?_⟩<;>(subst e;first | (simp[Sh.own1] at h2;done) | (simp[Sh.ans1] at h1;done)))
  obtain ⟨e1,e2,_⟩:=zbX g.1 g.2.1 g.2.2.1 g.2.2.2 x H;exact ⟨by rw[A2,e1,e2],by rw[← e1];exact jM _ _⟩
 have all:∀ (l:List Sh) (x:Sh.denL l),(l.all fun s=>s.ans1 && !s.own1)=true->(jE l x).all (zy H)=true∧(jE l x).map (A2 H)=encAL l x:=by
  intro l
  induction l with
  | nil=>intro x _;exact ⟨rfl,rfl⟩
  | cons sh l ih =>
   intro x h;simp only[AR,Ak,AJ] at h;cases l with
   | nil =>obtain ⟨k1,k2⟩:=two sh x h.1.1 h.1.2;exact ⟨by simp[jE,k2],by simp[jE,encAL,k1]⟩
   | cons bt l =>obtain ⟨k1,k2⟩:=two sh x.1 h.1.1 h.1.2;obtain ⟨k3,k4⟩:=ih x.2 h.2;exact ⟨by simp only[jE,AR,k2,k3,Cf],by simp only[jE,encAL,An,k1,k4]⟩
 obtain ⟨k1,k2⟩:=all caps x ha;simp only[enc,encA];rw[zaH,if_pos k1,k2]
def zab {sh:Sh} (h:∀ t,sh≠.own t) (x:sh.den):zm (encA sh x)=false:=by
 cases sh with
 | own t=>exact absurd rfl (h t)
 | err=>cases x<;>rfl
 | ns t=>cases x<;>rfl
 | _=>rfl
def Av_enc {sh:Sh} (h1:∀ t,sh≠.own t) (h2:∀ f l,sh≠.fnc f l) (h3:∀ l,sh≠.tp l) (h4:sh≠.unit) (x:sh.den) (h:THp):Av h (enc sh x)=encA sh x:=by
 obtain ⟨e1,e2,_⟩:=zbX h1 h2 h3 h4 x h;rw[jA (zcI e1),← e2];cases he:enc sh x with
 | tp=>rw[he] at e1;simp[lv2,lv1] at e1
 | fn=>rw[he] at e1;simp[lv2,lv1] at e1
 | _=>rfl
def hp_one {muts:List Nat} {i:Nat} {sh:Sh} (x:sh.den) (rest:THp) (args:List AV) (r:Nat) (h:THp) (ih:blk h (look r .gone rest)=zK muts (i+1) args r) (gU:look r .gone rest=.gone∨∃ t xs,look r .gone rest=.row 0 t xs) :
  blk h (look r .gone (hpM1 muts i sh x++rest))=zK muts i (encA sh x :: args) r∧(look r .gone (hpM1 muts i sh x++rest)=.gone∨∃ t xs,look r .gone (hpM1 muts i sh x++rest)=.row 0 t xs):=by
 by_cases ho:∃ t,sh=.own t
 ·obtain ⟨t,rfl⟩:=ho;simp only[hpM1,As,AA,zf,encA,zK,upd];by_cases e:z6 muts i=r
  ·subst e;simp only[if_true,blk];exact ⟨trivial,.inr ⟨_,_,rfl⟩⟩
  ·rw[if_neg e,if_neg (Ne.symm e)];exact ⟨ih,gU⟩
 ·have e:hpM1 muts i sh x=[]:=by
   cases sh with
   | own t=>exact absurd ⟨t,rfl⟩ ho
   | _=>rfl
  rw[e,AA];refine ⟨?_,gU⟩;rw[ih];have hn:=zab (fun t e=>ho ⟨t,e⟩) x;cases hx:encA sh x with
  | own z es=>rw[hx] at hn;simp[zm] at hn
  | _=>rfl
def hpTM_ok (muts:List Nat) (h:THp) (r:Nat):∀ (i:Nat) (l:List Sh) (x:Sh.denL l),blk h (look r .gone (hpTM muts i l x))=zK muts i (encAL l x) r∧(look r .gone (hpTM muts i l x)=.gone∨∃ t xs,look r .gone (hpTM muts i l x)=.row 0 t xs):=by
 intro i l
 induction l generalizing i with
 | nil=>intro x;exact ⟨rfl,.inl rfl⟩
 | cons sh l ih =>
  intro x;cases l with
  | nil =>have:=hp_one (muts:=muts) (i:=i) x [] [] r h rfl (.inl rfl);rw[BN] at this;exact this
  | cons bt l=>exact hp_one x.1 _ _ r h (ih (i+1) x.2).1 (ih (i+1) x.2).2
def fr_one {muts:List Nat} {i:Nat} {sh:Sh} (x:sh.den) {H:THp} (ha:sh.argM (zj muts i)=true) (hH:∀ z es,encA sh x=.own z es->∃ (t:Ty) (ys:List t.den),look (z6 muts i) .gone H=.row 0 t ys∧t.z=z∧ys.length=es.length) :
  Av H (encM1 muts i sh x)=(match encA sh x with | .own z es=>.lsl (z6 muts i) z 0 es.length | x=>x):=by
 rcases zed ha with ⟨_,t,rfl⟩ | ⟨_,h1,⟨f,l,rfl,hl⟩ | ⟨h2,h3,h4⟩⟩
 ·obtain ⟨t',ys,k1,k2,k3⟩:=hH _ _ rfl;have e3:lv H (.lw (z6 muts i) 0)=.lw (z6 muts i) 0:=by simp only[lv,lv2,lv1,k1,AG]
  show Av H (.lw (z6 muts i) 0)=_;rw[jA e3,dY k1,k2,k3];rfl
 ·exact enc_fnc hl x H
 ·have e:encM1 muts i sh x=enc sh x:=by
   cases sh with
   | own t=>exact absurd rfl (h1 t)
   | _=>rfl
  rw[e,Av_enc h1 h2 h3 h4];have hn:=zab h1 x;cases hx:encA sh x with
  | own z es=>rw[hx] at hn;simp[zm] at hn
  | _=>rfl
def frTM_ok {muts:List Nat} {H:THp} (k:Nat):∀ (i:Nat) (l:List Sh) (x:Sh.denL l),zgu muts i l=true->(∀ j z es,(encAL l x)[j]? = some (.own z es)->∃ (t:Ty) (ys:List t.den),look (z6 muts (i+j)) .gone H=.row 0 t ys∧t.z=z∧ys.length=es.length) ->
  Av H (look k .bot (frTM muts i l x))=qe muts i (encAL l x) k:=by
 intro i l
 induction l generalizing i with
 | nil=>intro x _ _;rfl
 | cons sh l ih =>
  intro x ha hH;simp only[zgu,Ak] at ha;cases l with
  | nil =>
   simp only[frTM,zf,encAL,qe,upd];by_cases e:i=k
   ·subst e;simp only[if_true];exact fr_one x ha.1 fun z es he=>by simpa using hH 0 z es (by simp[encAL,he])
   ·rw[if_neg e,if_neg (Ne.symm e)];rfl
  | cons bt l =>
   simp only[frTM,zf,encAL,qe,upd];by_cases e:i=k
   ·subst e;simp only[if_true];exact fr_one x.1 ha.1 fun z es he=>by simpa using hH 0 z es (by simp[encAL,he])
   ·rw[if_neg e,if_neg (Ne.symm e)];refine ih (i+1) x.2 ha.2 fun j z es hj => ?_;have:=hH (j+1) z es (by simp only[encAL,AN];exact hj)
    rwa [show i+(j+1)=i+1+j by omega] at this
def fitM_ok {muts:List Nat}:∀ (i:Nat) (l:List Sh) (x:Sh.denL l),zgu muts i l=true->qi muts i (encAL l x)=true:=by
 have one:∀ {i:Nat} {sh:Sh} (x:sh.den),sh.argM (zj muts i)=true->(zm (encA sh x) == zj muts i)=true:=by
  intro i sh x h;rcases zed h with ⟨e,t,rfl⟩ | ⟨e,h1,_⟩
  ·rw[e];rfl
  ·rw[e,zab h1];rfl
 intro i l
 induction l generalizing i with
 | nil=>intro x _;rfl
 | cons sh l ih =>
  intro x h;simp only[zgu,Ak] at h;cases l with
  | nil=>simp only[encAL,qi,Ce];exact one x h.1
  | cons bt l=>simp only[encAL,qi,one x.1 h.1,A4];exact ih (i+1) x.2 h.2
def zhl {muts:List Nat} {sig:List Sh} (x:Sh.denL sig) (h:zgu muts 0 sig=true) (hl:sig.length<=1000):enter muts (encAL sig x)=(zbq muts sig x).toA:=by
 have hlen:=zcY sig x;have bc:∀ j z es,(encAL sig x)[j]? = some (.own z es)->∃ (t:Ty) (ys:List t.den),look (z6 muts (0+j)) .gone (hpTM muts 0 sig x)=.row 0 t ys∧t.z=z∧ys.length=es.length:=by
  intro j z es hj;rw[AL];have aq:∀ (j:Nat) (y:AV),(encAL sig x)[j]? = some y->j < 1000:=fun j y h=>by have:=(Aa.1 h).1;omega
  have h0:=kH muts 0 (encAL sig x) j z es hj;rw[AL] at h0;obtain ⟨k1,k2⟩:=hpTM_ok muts [] (z6 muts j) 0 sig x;rcases jh muts (fun _=>none) 0 (encAL sig x) (z6 muts j) with ⟨h1,_⟩ | ⟨j',z',aX,h1,h2,h3,_⟩
  ·exact absurd h1 h0
  ·rw[AL] at h2;obtain rfl:=zbc (aq j _ hj) (aq j' _ h1) h2;rw[hj] at h1;cases h1;rw[h3] at k1;rcases k2 with k2 | ⟨t,ys,k2⟩
   ·rw[k2] at k1;cases k1
   ·rw[k2] at k1;simp only[blk,Option.some.injEq,Blk.arr.injEq] at k1;exact ⟨t,ys,k2,k1.1,by rw[← k1.2,Ar]⟩
 have e1:(zbq muts sig x).toA.fr=(enter muts (encAL sig x)).fr:=(by funext k;exact frTM_ok k 0 sig x h bc);have e2:(zbq muts sig x).toA.hp=(enter muts (encAL sig x)).hp:=(by funext r;exact (hpTM_ok muts _ r 0 sig x).1);show (⟨(enter muts (encAL sig x)).fr,(enter muts (encAL sig x)).hp⟩:ASt)=⟨(zbq muts sig x).toA.fr,(zbq muts sig x).toA.hp⟩;rw[e1,e2]
def zgK {G:Nat->Option AFunc} (hM:Ok G (za S)) (hC:zW S C) {id:Nat} {f:TFunc} (hf:G id=some f.er) (hm:f.muts.isEmpty=false) (ho:f.own=false) {sig:List Sh} {rs:Sh} (h1:zgu f.muts 0 sig=true) (h2:sig.length=f.np) (h4:Nat.ble f.np 1000=true) (h3:rs.ans=true) {x:Sh.denL sig} {y:rs.den}
  (h:f.runM C sig rs x=some y):zjn S id (encAL sig x) (jc f.muts) rs y:=by
 rw[Nat.ble_eq] at h4;unfold TFunc.runM at h;obtain ⟨e,s,hk,hex,_⟩:=zaN (S:=S) hC f.body _ _ _ h;have he:e=.norm∨e=.ret:=by
  cases e with
  | norm=>exact .inl rfl
  | ret=>exact .inr rfl
  | exit i=>cases hk
 have au:(match zb (zjo s) f.res with
   | some vs=>(match zC (vs.flatMap rf),jc f.muts with
    | true,[]=>zgC true s.hp rs vs
    | true,[i]=>keptT s i vs rs
    | _,_=>none)
   | none=>none)=some y:=by
  rcases he with rfl | rfl<;>exact hk
 have oU:f.muts≠[]:=fun e=>by rw[e] at hm;cases hm
 split at au
 ·rename_i vs bR;have aE:zb (q8 s.toA) f.res=some (vs.map (av s.hp))∧∀ v∈vs,lv s.hp v=v:=jR (fun a _ v hv=>zes hv) bR;have body:∀ r outs,qo false f.muts f.res s.toA=some (r,outs)->(za S).ret id (encAL sig x) r outs:=by
   intro r outs hr;refine hM id f.er _ r outs hf ⟨by rw[zcY,h2];rfl,fitM_ok 0 sig x h1,e,s.toA, ?_,he, ?_⟩
   ·show Ex _ f.body.er (enter f.muts (encAL sig x)) e s.toA;rw[zhl x h1 (by omega)];exact hex
   ·show qo f.own f.muts f.res s.toA=some (r,outs);rw[ho];exact hr
  split at au
  ·rename_i hn bq;rw[bq];have exp:∀ as,zb (zS s.toA) (vs.map (av s.hp))=some as->(za S).ret id (encAL sig x) (zH as) []:=(by intro as ha;refine body _ _ ?_;unfold qo;rw[aE.1];simp only[Am,if_false,if_neg oU];rw[if_pos (by rw[zcc vs aE.2];exact hn),ha];simp only[zhX,bq,zb]);have single:rs.ans1=true->(∃ v,vs=[v]∧exp1 true s.hp rs v=some y)->(za S).ret id (encAL sig x) (encA rs y) []:=by
    rintro ha ⟨v,rfl,hv⟩;obtain ⟨a,k1,k2,k3,k4⟩:=zcS ha (aE.2 v (by simp)) hv;have:=exp [a] (by
     rw[if_pos rfl] at k1;simp only[An,A3,zb];rw[k1])
    exact zer k3 k4 k2 this
   show (za S).ret id (encAL sig x) (encA rs y) [];cases rs with
   | tp l =>
    simp only[zgC] at au;split at au
    ·rename_i v1 v2 gP;obtain ⟨as,m1,m2,m3,m4⟩:=zhh l _ y h3 aE.2 au;have:=exp as (by simpa using m1);have e2:zH as=.tup as:=by
      match as,m3 with
      | _ :: _ :: _,_=>rfl
      | [_],h=>simp at h
      | [],h=>simp at h
     rw[e2] at this;exact ret_rwL m2 m4 this
    ·cases au
   | unit =>
    simp only[zgC] at au;split at au
    ·exact exp [] rfl
    ·cases au
   | fnc f l=>simp[Sh.ans] at h3
   | _ =>
    simp only[zgC] at au;split at au
    ·exact single rfl ⟨_,rfl,au⟩
    ·cases au
  ·rename_i i hn bq;rw[bq];cases rs with
   | own t =>
    simp only[keptT] at au;split at au
    ·rename_i v t' ys hq;obtain ⟨rfl,rfl⟩:=zJ au;refine body (.tup []) _ ?_;unfold qo;rw[aE.1];simp only[Am,if_false,if_neg oU];rw[if_pos (by rw[zcc _ aE.2];exact hn)];simp only[A3,zb,zhX,bq,zN,hq,blk];rfl
    ·cases au
   | _=>trivial
  ·cases au
 ·cases au
end
end
section
open Go Go.RowKit
section
variable {S:Seat} {C:List CSpec} {s:TSt}
def reto_rwO {f:Nat} {cs as ds ky:List AV} {r r':AV} (hp:PW ds ky) (hr:∀ (A:Nat->Prop) (w:World) (β:Nat->Option Nat) (v:Value),qY S A w β r v->qY S A w β r' v) (h:(za S).reto f cs as r ds):(za S).reto f cs as r' ky:=by intro g hg A w vs b ι el m hl hv hA hf hJ ho ha;refine (h g hg A w vs b ι el m hl hv hA hf hJ ho ha).mono ?_;rintro e w' ⟨v,β,he,hk,hj,hβ,aA,h1,h2⟩;exact ⟨v,β,he,hk,hj,hβ,aA,h1.rw hp,hr _ _ _ _ h2⟩
def retn_rwO {f:Nat} {as rs ds ky:List AV} (hp:PW ds ky) (h:(za S).retn f as rs ds):(za S).retn f as rs ky:=by intro g hg A w vs hl hA hJ ha;refine (h g hg A w vs hl hA hJ ha).mono ?_;rintro e w' ⟨us,b,β,el,m,he,hk,hj,h0,h1,h2,h3,h4,h5⟩;exact ⟨us,b,β,el,m,he,hk,hj,h0,h1,h2,h3,h4.rw hp,h5⟩
def expT_ok {R:Sh} {vs:List TV} {b:R.den} (hR:R.ans=true) (hl:∀ v∈vs,lv s.hp v=v) (h:zgC true s.hp R vs=some b) :
  ∃ as,zb (zS s.toA) (vs.map (av s.hp))=some as∧∀ (A:Nat->Prop) (w:World) (β:Nat->Option Nat) (v:Value),qY S A w β (zH as) v->qY S A w β (encA R b) v:=by
 have single:R.ans1=true->(∃ v,vs=[v]∧exp1 true s.hp R v=some b)->∃ as,zb (zS s.toA) (vs.map (av s.hp))=some as∧∀ (A:Nat->Prop) (w:World) (β:Nat->Option Nat) (v:Value),qY S A w β (zH as) v->qY S A w β (encA R b) v:=(by rintro ha ⟨v,rfl,hv⟩;obtain ⟨a,k1,k2,k3,k4⟩:=zcS ha (hl v (by simp)) hv;rw[if_pos rfl] at k1;exact ⟨[a],by simp only[An,A3,zb,k1],fun A w β v hp=>zfG k3 k4 k2 hp⟩);cases R with
 | tp l =>
  simp only[zgC] at h;split at h
  ·rename_i v1 v2 gP;obtain ⟨as,m1,m2,m3,m4⟩:=zhh l _ b hR hl h;simp only[if_true] at m1;refine ⟨as,m1,fun A w β v hp => ?_⟩;have e2:zH as=.tup as:=by
    match as,m3 with
    | _ :: _ :: _,_=>rfl
    | [_],h=>simp at h
    | [],h=>simp at h
   rw[e2] at hp;obtain ⟨us,hv,hlen,hp⟩:=hp;refine ⟨us,hv,by omega,fun i y hy => ?_⟩;obtain ⟨x,hx⟩:=zu m2 hy;exact kE (m4 i x y hx hy) (hp i x hx)
  ·cases h
 | unit =>
  simp only[zgC] at h;split at h
  ·exact ⟨[],rfl,fun A w β v hp=>hp⟩
  ·cases h
 | fnc f l=>simp[Sh.ans] at hR
 | _ =>
  simp only[zgC] at h;split at h
  ·exact single rfl ⟨_,rfl,h⟩
  ·cases h
def Sh.cellU:Sh->Bool
 | .unit=>true
 | sh=>sh.cell
def encL_av (H:THp):∀ (l:List Sh) (x:Sh.denL l),(l.all fun s=>s.ans1 && !s.own1)=true->(jE l x).map (Av H)=encAL l x∧∀ y∈encAL l x,zm y=false:=by
 have one:∀ (sh:Sh) (x:sh.den),(sh.ans1 && !sh.own1)=true->Av H (enc sh x)=encA sh x∧zm (encA sh x)=false:=by
  intro sh x h0;simp only[Ak,AJ] at h0;have g:(∀ t,sh≠.own t)∧(∀ f l,sh≠.fnc f l)∧(∀ l,sh≠.tp l)∧sh≠.unit:=(by refine ⟨fun t e => ?_,fun f l e => ?_,fun l e => ?_,fun e => ?_⟩<;>(subst e;first | (simp[Sh.own1] at h0;done) | (simp[Sh.ans1] at h0;done)))
  exact ⟨Av_enc g.1 g.2.1 g.2.2.1 g.2.2.2 x H,zab g.1 x⟩
 intro l
 induction l with
 | nil=>intro x _;exact ⟨rfl,by simp[encAL]⟩
 | cons sh l ih =>
  intro x h;simp only[AR,Ak] at h;cases l with
  | nil =>obtain ⟨k1,k2⟩:=one sh x (by simpa using h.1);exact ⟨by simp[jE,encAL,k1],by simp[encAL,k2]⟩
  | cons bt l =>
   obtain ⟨k1,k2⟩:=one sh x.1 (by simpa using h.1);obtain ⟨k3,k4⟩:=ih x.2 (by simpa using h.2);refine ⟨by simp only[jE,encAL,An,k1,k3],fun y hy => ?_⟩;simp only[encAL] at hy;rcases Aq.1 hy with rfl | hy
   ·exact k2
   ·exact k4 y hy
def zin {j:Nat} {sh:Sh} {x:sh.den} (hc:sh.cellU=true):(∃ t,∃ xs:List t.den,hpO1 j sh x=[(inS 1000 j,.row 0 t xs)]∧unb (encA sh x)=.own t.z (xs.map t.cells)∧cellO j sh x=.lw (inS 1000 j) 0) ∨
  (hpO1 j sh x=[]∧(∀ z es,unb (encA sh x)≠.own z es)∧∀ H:THp,A1 H (cellO j sh x)=unb (encA sh x)):=by
 cases sh with
 | own t=>exact .inl ⟨t,x,rfl,rfl,rfl⟩
 | unit=>exact .inr ⟨rfl,fun z es e=>by (cases e),fun H=>rfl⟩
 | st t=>simp[Sh.cellU,Sh.cell] at hc
 | tp t=>simp[Sh.cellU,Sh.cell] at hc
 | fnc f t=>simp[Sh.cellU,Sh.cell] at hc
 | err=>exact .inr ⟨rfl,fun z es e=>by (cases x<;>cases e),fun H=>by cases x<;>rfl⟩
 | ns t=>exact .inr ⟨rfl,fun z es e=>by (cases x<;>cases e),fun H=>by cases x<;>rfl⟩
 | _=>exact .inr ⟨rfl,fun z es e=>by (cases e),fun H=>rfl⟩
def hpOne (H:THp) (r:Nat) {j:Nat} {sh:Sh} (x:sh.den) (rest:THp) (us:List AV) (hc:sh.cellU=true) (h1:blk H (look r .gone rest)=qw (j+1) us r) (h2:look r .gone rest=.gone∨∃ t xs,look r .gone rest=.row 0 t xs) :
  blk H (look r .gone (hpO1 j sh x++rest))=qw j (unb (encA sh x) :: us) r∧(look r .gone (hpO1 j sh x++rest)=.gone∨∃ t xs,look r .gone (hpO1 j sh x++rest)=.row 0 t xs):=by
 rcases zin (j:=j) (x:=x) hc with ⟨t,xs,e1,e2,_⟩ | ⟨e1,e2,_⟩
 ·rw[e1,e2];simp only[As,AA,zf,qw];generalize inS 1000 j=q;by_cases e:q=r
  ·subst e;rw[if_pos rfl,zM];exact ⟨rfl,.inr ⟨_,_,rfl⟩⟩
  ·rw[if_neg e,jC _ _ _ (Ne.symm e)];exact ⟨h1,h2⟩
 ·rw[e1,AA];refine ⟨?_,h2⟩;rw[h1];generalize unb (encA sh x)=z at e2;cases z<;>first | rfl | exact absurd rfl (e2 _ _)
def hpO_ok (H:THp) (r:Nat):∀ (j:Nat) (l:List Sh) (x:Sh.denL l),l.all Sh.cellU=true->blk H (look r .gone (hpO j l x))=qw j ((encAL l x).map unb) r∧(look r .gone (hpO j l x)=.gone∨∃ t xs,look r .gone (hpO j l x)=.row 0 t xs):=by
 intro j l
 induction l generalizing j with
 | nil=>intro x _;exact ⟨rfl,.inl rfl⟩
 | cons sh l ih =>
  intro x h;simp only[AR,Ak] at h;cases l with
  | nil =>have:=hpOne H r (j:=j) x [] [] h.1 rfl (.inl rfl);rw[BN] at this;exact this
  | cons bt l=>exact hpOne H r (j:=j) x.1 _ _ h.1 (ih (j+1) x.2 h.2).1 (ih (j+1) x.2 h.2).2
def cellsO_ok {H:THp}:∀ (j:Nat) (l:List Sh) (x:Sh.denL l),l.all Sh.cellU=true->(∀ i z es,((encAL l x).map unb)[i]? = some (.own z es)->∃ (t:Ty) (ys:List t.den),look (inS 1000 (j+i)) .gone H=.row 0 t ys∧t.z=z∧ys.length=es.length) ->
  (j9 j l x).map (A1 H)=jI 1000 j ((encAL l x).map unb):=by
 have one:∀ {j:Nat} {sh:Sh} (x:sh.den),sh.cellU=true->(∀ z es,unb (encA sh x)=.own z es->∃ (t:Ty) (ys:List t.den),look (inS 1000 j) .gone H=.row 0 t ys∧t.z=z∧ys.length=es.length) ->
   A1 H (cellO j sh x)=(match unb (encA sh x) with | .own z es=>.lsl (inS 1000 j) z 0 es.length | x=>x):=by
  intro j sh x hc hh;rcases zin (j:=j) (x:=x) hc with ⟨t,xs,_,e2,e3⟩ | ⟨_,e2,e3⟩
  ·obtain ⟨t',ys,k1,k2,k3⟩:=hh _ _ e2;rw[e2,e3];simp only[A1,lv1,k1,AG,av1,k2,k3]
  ·rw[e3];generalize unb (encA sh x)=z at e2;cases z<;>first | rfl | exact absurd rfl (e2 _ _)
 intro j l
 induction l generalizing j with
 | nil=>intro x _ _;rfl
 | cons sh l ih =>
  intro x h hh;simp only[AR,Ak] at h;cases l with
  | nil =>
   have:=one (j:=j) x h.1 fun z es e=>by simpa using hh 0 z es (by simp[encAL,e])
   simp only[j9,encAL,An,A3,jI,this];cases unb (encA sh x)<;>rfl
  | cons bt l =>
   have e1:=one (j:=j) x.1 h.1 fun z es e=>by simpa using hh 0 z es (by simp[encAL,e])
   have e2:=ih (j+1) x.2 h.2 fun i z es e=>by
    have:=hh (i+1) z es (by simp only[encAL,An,AN];exact e)
    rwa [show j+(i+1)=j+1+i by omega] at this
   simp only[j9,encAL,An,jI,e1,e2];cases unb (encA sh x.1)<;>rfl
def frT_av {H:THp} (k:Nat):∀ (i:Nat) (l:List TV),(∀ y∈l.map (Av H),zm y=false)->Av H (look k .bot (frT i l))=qe [] i (l.map (Av H)) k
 | _,[],_=>rfl
 | i,x :: l,h=>by
  simp only[frT,An,qe,upd,zf];by_cases e:k=i
  ·subst e;rw[if_pos rfl,if_pos rfl];have h0:=h _ Ah;generalize Av H x=z at h0;cases z<;>first | rfl | simp[zm] at h0
  ·rw[if_neg (Ne.symm e),if_neg e];exact frT_av k (i+1) l fun y hy=>h y (Ad _ hy)
def enterC {l:List Sh} {x:Sh.denL l} {rest:List Sh} {xs:Sh.denL rest} (hc:l.all Sh.cellU=true) (ha:(rest.all fun s=>s.ans1 && !s.own1)=true) :
  ({ fr:=(0,.pv 1000 0) :: frT 1 (jE rest xs),hp:=(1000,.var (j9 0 l x)) :: hpO 0 l x,ctr:=1 }:TSt).toA=qz ((encAL l x).map unb) (encAL rest xs):=by
 have h1:look 1000 .gone ((1000,TB.var (j9 0 l x)) :: hpO 0 l x)=.var (j9 0 l x):=by rw[zf,if_pos rfl]
 have bc:∀ i z es,((encAL l x).map unb)[i]? = some (.own z es)->∃ (t:Ty) (ys:List t.den),look (inS 1000 (0+i)) .gone ((1000,TB.var (j9 0 l x)) :: hpO 0 l x)=.row 0 t ys∧t.z=z∧ys.length=es.length:=by
  intro i z es hi;have k0:=(zbs (fun _=>none) 0 _ i z es hi).1;obtain ⟨k1,k2⟩:=hpO_ok [] (inS 1000 (0+i)) 0 l x hc;rw[k0] at k1;rw[zf,if_neg (inS_ne 1000 _).symm];rcases k2 with k2 | ⟨t,ys,k2⟩
  ·rw[k2] at k1;cases k1
  ·rw[k2] at k1;simp only[blk,Option.some.injEq,Blk.arr.injEq] at k1;exact ⟨t,ys,k2,k1.1,by rw[← k1.2,Ar]⟩
 have e1:({ fr:=(0,.pv 1000 0) :: frT 1 (jE rest xs),hp:=(1000,.var (j9 0 l x)) :: hpO 0 l x,ctr:=1 }:TSt).toA.fr=(qz ((encAL l x).map unb) (encAL rest xs)).fr:=by
  funext k;obtain ⟨q1,q2⟩:=encL_av ((1000,TB.var (j9 0 l x)) :: hpO 0 l x) rest xs ha;rw[zbF];simp only[zf,qz,upd];by_cases e:k=0
  ·subst e;rw[if_pos rfl,if_pos rfl,qC rfl,A1];simp only[lv1,h1,av1]
  ·rw[if_neg (Ne.symm e),if_neg e,frT_av k 1 _ (by rw[q1];exact q2),q1]
 have e2:({ fr:=(0,.pv 1000 0) :: frT 1 (jE rest xs),hp:=(1000,.var (j9 0 l x)) :: hpO 0 l x,ctr:=1 }:TSt).toA.hp=(qz ((encAL l x).map unb) (encAL rest xs)).hp:=by
  funext r;rw[zN];simp only[zf,qz,upd];by_cases e:r=1000
  ·subst e;rw[if_pos rfl,if_pos rfl];simp only[blk];rw[← cellsO_ok (H:=(1000,TB.var (j9 0 l x)) :: hpO 0 l x) 0 l x hc bc];rfl
  ·rw[if_neg (Ne.symm e),if_neg e];exact (hpO_ok _ r 0 l x hc).1
 generalize ({ fr:=(0,.pv 1000 0) :: frT 1 (jE rest xs),hp:=(1000,.var (j9 0 l x)) :: hpO 0 l x,ctr:=1 }:TSt).toA=a at e1 e2;obtain ⟨f1,g1⟩:=a;simp only at e1 e2;subst e1;subst e2;rfl
def sigO:List Sh->Bool
 | .tp l :: rest=>l.all Sh.cellU && rest.all fun s=>s.ans1 && !s.own1
 | _=>false
def resO:Sh->Bool
 | .tp [.tp _,R]=>R.ans
 | _=>false
def sigO_ok {sig:List Sh} {x:Sh.denL sig} (h:sigO sig=true):∃ cs vals,encAL sig x=.tup cs :: vals∧(enterTO sig x).toA=qz (cs.map unb) vals∧(∀ y∈vals,zm y=false)∧vals.length+1=sig.length:=by
 match sig,h with
 | [.tp l],h =>simp only[sigO,Ak] at h;exact ⟨encAL l x,[],rfl,enterC (rest:=[]) (xs:=()) h.1 rfl,by simp,rfl⟩
 | .tp l :: y :: r,h =>simp only[sigO,Ak] at h;exact ⟨encAL l x.1,encAL (y :: r) x.2,rfl,enterC h.1 h.2,(encL_av [] _ _ h.2).2,by rw[zcY];rfl⟩
def zgI {G:Nat->Option AFunc} (hM:OkO G (za S)) (hC:zW S C) {id:Nat} {f:TFunc} (hf:G id=some f.er) {sig:List Sh} {rs:Sh} (h1:sigO sig=true) (h2:sig.length=f.np) (h3:resO rs=true) {x:Sh.denL sig} {y:rs.den}
  (h:f.runO C sig rs x=some y):zjn S id (encAL sig x) [4000] rs y:=by
 obtain ⟨cs,vals,e1,e2,e3,e4⟩:=sigO_ok (x:=x) h1;unfold TFunc.runO at h;obtain ⟨e,s,hk,hex,_⟩:=zaN (S:=S) hC f.body _ _ _ h;rw[e2] at hex;rw[e1];have he:e=.norm∨e=.ret:=by
  cases e with
  | norm=>exact .inl rfl
  | ret=>exact .inr rfl
  | exit i=>cases hk
 have au:(match zb (zjo s) f.res with | some vs=>endO s vs rs | none=>none)=some y:=(by rcases he with rfl | rfl<;>exact hk)
 split at au
 ·rename_i vs bR;have aE:zb (q8 s.toA) f.res=some (vs.map (av s.hp))∧∀ v∈vs,lv s.hp v=v:=jR (fun a _ v hv=>zes hv) bR;unfold endO at au;split at au
  ·rename_i l R;split at au
   ·rename_i ch cd;split at au
    ·rename_i a b hn hd hx;cases au;obtain ⟨o1,o2,_⟩:=zeC cd;obtain ⟨as,m1,m2,m3,_⟩:=zeW l ch a o2 hd;obtain ⟨bs,p1,p2⟩:=expT_ok (S:=S) h3 aE.2 hx;refine reto_rwO m2 p2 (hM.1 id f.er _ vals _ _ hf ⟨by rw[e4,h2];rfl,e3,e,s.toA,hex,he, ?_⟩);show zcR f.res s.toA=_;unfold zcR;rw[aE.1,o1];simp only;rw[if_pos (by rw[zcc vs aE.2,m3];exact hn),p1,m1]
    ·cases au
   ·cases au
  ·cases au
 ·cases au
def zhk (muts:List Nat) (args:List AV) (h:∀ y∈args,zm y=false):enter muts args=enter [] args:=by
 have fr:∀ (i:Nat) (l:List AV),(∀ y∈l,zm y=false)->qe muts i l=qe [] i l:=by
  intro i l
  induction l generalizing i with
  | nil=>intro _;rfl
  | cons a l ih =>intro h;have h0:=h a Ah;simp only[qe,ih (i+1) fun y hy=>h y (Ad _ hy)];cases a<;>first | rfl | simp[zm] at h0
 simp only[enter,fr 0 args h,qH muts 0 args h,qH [] 0 args h]
def nilT_ok {v:TV} {h:THp} (hv:nilT v=true):av h v=.v .nilIface:=by
 unfold nilT at hv;split at hv
 ·rfl
 ·rfl
 ·cases hv
def zgJ {G:Nat->Option AFunc} (hM:OkO G (za S)) (hM0:Ok G (za S)) (hC:zW S C) {id:Nat} {f:TFunc} (hf:G id=some f.er) (hm:f.muts=[5000]) (ho:f.own=false) {sig:List Sh} {rs:Sh} (h1:sig.all Sh.arg=true) (h2:sig.length=f.np) {x:Sh.denL sig} {y:rs.den}
  (h:f.runN C sig rs x=some y):zjn S id (encAL sig x) [5000,5000] rs y:=by
 obtain ⟨a1,a2,a3⟩:=zcX sig x h1;unfold TFunc.runN at h;obtain ⟨e,s,hk,hex,_⟩:=zaN (S:=S) hC f.body _ _ _ h;rw[← zga x h1] at hex;have he:e=.norm∨e=.ret:=by
  cases e with
  | norm=>exact .inl rfl
  | ret=>exact .inr rfl
  | exit i=>cases hk
 have au:(match zb (zjo s) f.res with | some vs=>endN s vs rs | none=>none)=some y:=(by rcases he with rfl | rfl<;>exact hk)
 split at au
 ·rename_i vs bR;have aE:zb (q8 s.toA) f.res=some (vs.map (av s.hp))∧∀ v∈vs,lv s.hp v=v:=jR (fun a _ v hv=>zes hv) bR;unfold endN at au;split at au
  ·rename_i l;split at au
   ·rename_i r v;split at au
    ·rename_i ch bD cd;split at au
     ·rename_i a hn hd;cases au;obtain ⟨o1,o2,_⟩:=zeC cd;obtain ⟨as,m1,m2,m3,_⟩:=zeW l ch a o2 hd;refine retn_rwO m2 (hM.2 id f.er _ _ _ hf ⟨by rw[a3,h2];rfl,a2,e,s.toA,hex,he, ?_⟩);show zeS f.res s.toA=_;unfold zeS;rw[aE.1];simp only[An,A3,nilT_ok bD,show av s.hp (.pv r 0)=.pv r 0 from rfl,o1];rw[if_pos (by rw[m3];simpa[AV.refsL,AV.refs] using hn),m1];rfl
     ·cases au
    ·cases au
   ·rename_i e0;split at au
    ·rename_i a hd;obtain ⟨hb,au⟩:=qg au;cases au;have ay:e0.isNil=false:=by simpa using hb
     show match e0.isNil with | true=>_ | false=>_
     rw[ay];refine hM0 id f.er _ _ [] hf ⟨by rw[a3,h2];rfl, ?_,e,s.toA, ?_,he, ?_⟩
     ·show qi f.muts 0 _=true;rw[hm];have:∀ (i:Nat) (l:List AV),(∀ y∈l,zm y=false)->qi [5000] i l=true:=by
       intro i l
       induction l generalizing i with
       | nil=>intro _;rfl
       | cons a l ih =>
        intro h;have hh:zj [5000] i=false:=by
         simp only[zj,Cn];by_cases hi:i < 1000
         ·right;simp only[List.contains_cons,BJ,Bool.or_false,BK,beq_eq_false_iff_ne];omega
         ·left;rw[← BZ,Bz];exact hi
        simp only[qi,h a Ah,hh,BEq.rfl,A4];exact ih (i+1) fun y hy=>h y (Ad _ hy)
      exact this 0 _ a2
     ·show Ex _ f.body.er (enter f.muts _) e s.toA;rw[zhk _ _ a2];exact hex
     ·show qo f.own f.muts f.res s.toA=_;rw[ho,hm];unfold qo;rw[aE.1];have e1:(av s.hp (.e e0)).refs=[]:=by cases e0<;>rfl
      simp only[An,A3,Am,if_false];rw[if_neg (by simp),if_pos (by simp only[AV.refsL,e1];rfl)];simp only[zb,wO e1];rfl
    ·cases au
   ·cases au
  ·cases au
 ·cases au
end
end
section
open Go Go.RowKit
section
variable {S:Seat}
def Ok1 (S:Seat) (id:Nat) (f:TFunc):Prop:=Ok (fun i=>if i=id then some f.er else none) (za S)
def Rt (S:Seat) (c:CSpec):Prop:=∀ x y,c.fn x=some y->zjn S c.f (encAL c.sig x) (keptK c.muts) c.res y
def zW.nil:zW S []:=fun c hc=>by cases hc
def zW.cons {c:CSpec} {r:List CSpec} (h:Rt S c) (hr:zW S r):zW S (c :: r):=fun c' hc=>by
 rcases Aq.1 hc with rfl | hc
 ·exact h
 ·exact hr c' hc
def RtF (S:Seat):List CSpec->Prop->Prop
 | [],T=>T
 | k :: l,T=>Rt S k->RtF S l T
def rtf:∀ {C:List CSpec} {T:Prop},(zW S C->T)->RtF S C T
 | [],_,h=>h zW.nil
 | _ :: _,_,h=>fun hk=>rtf fun hl=>h (zW.cons hk hl)
def Ok1.sound {id:Nat} {f:TFunc} {C:List CSpec} {sig:List Sh} {rs:Sh} (h:Ok1 S id f) (hC:zW S C) (h1:sig.all Sh.arg=true) (h2:sig.length=f.np) (h3:rs.ans=true) {x:Sh.denL sig} {y:rs.den} (hr:f.run C sig rs x=some y)
  (hm:f.muts=[]):(za S).ret id (encAL sig x) (encA rs y) []:=ziF h hC (if_pos rfl) hm h1 h2 h3 hr
def okr {f:TFunc} {C:List CSpec} {k:CSpec} (h:Ok1 S k.f f) (hb:(k.muts.isEmpty && k.sig.all Sh.arg && Nat.beq k.sig.length f.np && k.res.ans && f.muts.isEmpty)=true:=by rfl) (hr:∀ x,f.run C k.sig k.res x=k.fn x:=by intro x;kernel_rfl):RtF S C (Rt S k):=rtf fun hC x y hy=>by
 simp only[Ak,Bt] at hb;obtain ⟨⟨⟨⟨h0,h1⟩,h2⟩,h3⟩,h4⟩:=hb;rw[h0];exact Ok1.sound h hC h1 (Bg h2) h3 ((hr x).trans hy) h4
def Ok1.soundM {id:Nat} {f:TFunc} {C:List CSpec} {sig:List Sh} {rs:Sh} (h:Ok1 S id f) (hC:zW S C) (hm:f.muts.isEmpty=false) (ho:f.own=false) (h1:zgu f.muts 0 sig=true) (h2:sig.length=f.np) (h4:Nat.ble f.np 1000=true) (h3:rs.ans=true) {x:Sh.denL sig} {y:rs.den} (hr:f.runM C sig rs x=some y) :
  zjn S id (encAL sig x) (jc f.muts) rs y:=zgK h hC (if_pos rfl) hm ho h1 h2 h4 h3 hr
def zU:∀ (l:List (Nat×Nat)) (k v:Nat),qh k l=some v->(k,v)∈l
 | [],_,_,h=>by cases h
 | (a,b) :: r,k,v,h=>by
  simp only[qh] at h;split at h
  ·rename_i e;subst e;cases h;exact Ah
  ·exact Ad _ (zU r k v h)
def only (g id:Nat) (l:List (Nat×Nat)):Bool:=l.all fun p=>match Nat.beq p.2 id with | true=>Nat.beq p.1 g | false=>true
def zt (hS:qd S) {g id:Nat} {fn:Func} {f:TFunc} (h1:S.P.funcs[g]? = some fn) (h2:zaB S id fn=some f.er:=by kernel_rfl) (h3:only g id S.fns=true:=by kernel_rfl):Ok1 S id f:=by
 refine ok_of hS (fun g' id' h f' hf => ?_) fun _ _ _=>.inr (drawOk hS);split at hf
 ·rename_i e;subst e;cases hf;have:=Af.1 h3 _ (zU _ _ _ h);simp only[AG] at this;obtain rfl:=Bg this;exact ⟨fn,h1,h2⟩
 ·cases hf
def zji (S:Seat) (id:Nat) (f:TFunc):Prop:=OkO (fun i=>if i=id then some f.er else none) (za S)∧Ok1 S id f
def zcz (hS:qd S) {g id:Nat} {fn:Func} {f:TFunc} (h1:S.P.funcs[g]? = some fn) (h2:zaB S id fn=some f.er:=by kernel_rfl) (h3:only g id S.fns=true:=by kernel_rfl):zji S id f:=by
 refine ⟨okO_of hS (fun g' id' h f' hf => ?_) fun _ _ _=>.inr (drawOk hS),zt hS h1 h2 h3⟩;split at hf
 ·rename_i e;subst e;cases hf;have:=Af.1 h3 _ (zU _ _ _ h);simp only[AG] at this;obtain rfl:=Bg this;exact ⟨fn,h1,h2⟩
 ·cases hf
def okrO {f:TFunc} {C:List CSpec} {k:CSpec} (h:zji S k.f f) (hb:(eqN k.muts [4000] && sigO k.sig && Nat.beq k.sig.length f.np && resO k.res)=true:=by rfl) (hr:∀ x,f.runO C k.sig k.res x=k.fn x:=by intro x;kernel_rfl):RtF S C (Rt S k):=rtf fun hC x y hy=>by
 simp only[Ak] at hb;obtain ⟨⟨⟨h0,h1⟩,h2⟩,h3⟩:=hb;rw[zcV h0];exact zgI h.1 hC (if_pos rfl) h1 (Bg h2) h3 ((hr x).trans hy)
def okrN {f:TFunc} {C:List CSpec} {k:CSpec} (h:zji S k.f f) (hb:(eqN k.muts [5000] && k.sig.all Sh.arg && Nat.beq k.sig.length f.np && eqN f.muts [5000] && !f.own)=true:=by rfl) (hr:∀ x,f.runN C k.sig k.res x=k.fn x:=by intro x;kernel_rfl):RtF S C (Rt S k):=rtf fun hC x y hy=>by
 simp only[Ak,AJ] at hb;obtain ⟨⟨⟨⟨h0,h1⟩,h2⟩,h3⟩,h4⟩:=hb;rw[zcV h0];exact zgJ h.1 h.2 hC (if_pos rfl) (zcV h3) h4 h1 (Bg h2) ((hr x).trans hy)
def callB (P : Program) (l : List (Nat × Nat)) : Bool := l.all fun p => match P.funcs[p.1]? with | some fn => fn.body.isSome && !(fn.name == "runtime.NumGoroutine") | none => false
def zhx (h:callB S.P S.fns=true):qd S:=by
 intro g id hg;have:=Af.1 h _ (zU _ _ _ hg);simp only at this;split at this
 ·rename_i fn hf;simp only[Ak,AJ] at this;exact ⟨fn,hf,this.1,this.2⟩
 ·cases this
end
end
end Ab
