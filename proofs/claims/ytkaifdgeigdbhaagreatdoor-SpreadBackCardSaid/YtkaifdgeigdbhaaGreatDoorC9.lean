import Derived.Test.YtkaifdgeigdbhaaGreatDoorC8
set_option linter.all false
namespace Ab
open Go
section
def zbg (s:ByteArray):∀ (f:Nat) (m:Md) (a:Nat) (l:List Node) (r:PR),rd s f m a l=some r->rd s (f+1) m a l=some r
 | 0,_,_,_,_,h=>by cases h
 | f+1,.one,a,l,r,h=>by
  have ih:=fun lv q hs=>zbg s f (.row lv) (a+1) l q hs;rw[rd] at h;rw[rd];by_cases c0:1000<=l.length
  ·rw[if_pos c0] at h;cases h
  rw[if_neg c0] at h ⊢;by_cases c1:dgB (pk s a)=true
  ·rw[if_pos c1] at h ⊢;exact h
  rw[if_neg c1] at h ⊢;by_cases c2:ltB (pk s a)=true
  ·rw[if_pos c2] at h ⊢;exact h
  rw[if_neg c2] at h ⊢;by_cases c3:pk s a≠40
  ·rw[if_pos c3] at h ⊢;exact h
  rw[if_neg c3] at h ⊢;cases hs:rd s f (.row true) (a+1) l with
  | none=>rw[hs] at h;cases h
  | some q =>rw[hs] at h;rw[ih true q hs];exact h
 | f+1,.row lv,a,l,r,h=>by
  rw[rd] at h;rw[rd];cases hs:rd s f (zci lv) a l with
  | none=>rw[hs] at h;cases h
  | some q =>
   rw[hs] at h;rw[zbg s f _ _ _ _ hs];cases q with
   | bad b=>exact h
   | ok i b l'=>exact zbg s f _ _ _ _ h
 | f+1,.more lv j,a,l,r,h=>by
  rw[rd] at h;rw[rd];by_cases c:wK lv (pk s a)=false
  ·rw[if_pos c] at h ⊢;exact h
  rw[if_neg c] at h ⊢;cases hs:rd s f (zci lv) (a+1) l with
  | none=>rw[hs] at h;cases h
  | some q =>
   rw[hs] at h;rw[zbg s f _ _ _ _ hs];cases q with
   | bad b=>exact h
   | ok i b l' =>
    simp only at h ⊢;by_cases c2:1000<=l'.length
    ·rw[if_pos c2] at h;cases h
    ·rw[if_neg c2] at h ⊢;exact zbg s f _ _ _ _ h
def gL {s:ByteArray} {f:Nat} {m:Md} {a:Nat} {l:List Node} {r:PR} (h:rd s f m a l=some r):∀ k,rd s (f+k) m a l=some r
 | 0=>h
 | k+1=>zbg s _ _ _ _ _ (gL h k)
def zaj (n:Nat):Md->Nat->Nat
 | .one,a=>4 * (n - a)+1
 | .more _ _,a=>4 * (n - a)+2
 | .row false,a=>4 * (n - a)+3
 | .row true,a=>4 * (n - a)+4
def wY (s:ByteArray):∀ (f:Nat) (m:Md) (a:Nat) (l:List Node),a<=s.size->l.length+(s.size - a) < 1000->zaj s.size m a<=f->∃ r,rd s f m a l=some r∧∀ i b l',r=.ok i b l'->b<=s.size∧l'.length+(s.size - b)<=l.length+(s.size - a)∧(match m with | .more _ _=>a<=b | _=>a < b)
 | 0,m,a,l,_,_,h=>by
  cases m with
  | one=>simp[zaj] at h
  | more lv i=>simp[zaj] at h
  | row lv=>cases lv<;>simp[zaj] at h
 | f+1,.one,a,l,ha,hl,hf=>by
  simp only[zaj] at hf;rw[rd,if_neg (by omega)];by_cases c1:dgB (pk s a)=true
  ·rw[if_pos c1];obtain ⟨h1,h2,h3,h4⟩:=zat s a 8 a;have h5:=h4 ha;have ak:a < ww s a 8 a:=by
    have:ww s a 8 a=ww s a 7 (a+1):=by
     show (if _ then _ else _)=_
     rw[if_pos ⟨c1,by omega,.inl rfl⟩]
    rw[this];exact (zat s a 7 (a+1)).1
   refine ⟨_,rfl, ?_⟩;rintro i b l' h;cases h;simp only[AQ,Au,Bs];exact ⟨h5,by omega,ak⟩
  rw[if_neg c1];by_cases c2:ltB (pk s a)=true
  ·rw[if_pos c2];obtain ⟨h1,h2,h4⟩:=zcU s (s.size+1) a;have h5:=h4 ha;have ak:a < zeV s (s.size+1) a:=by
    have:zeV s (s.size+1) a=zeV s s.size (a+1):=by
     show (if _ then _ else _)=_
     rw[if_pos c2]
    rw[this];exact (zcU s s.size (a+1)).1
   refine ⟨_,rfl, ?_⟩;rintro i b l' h;cases h;simp only[AQ,Au,Bs];exact ⟨h5,by omega,ak⟩
  rw[if_neg c2];by_cases c3:pk s a≠40
  ·rw[if_pos c3];exact ⟨_,rfl,by rintro i b l' h;cases h⟩
  rw[if_neg c3];have ak:=zeN (s:=s) (j:=a) (by omega);obtain ⟨r,e,h⟩:=wY s f (.row true) (a+1) l (by omega) (by omega) (by simp only[zaj];omega);rw[e];cases r with
  | bad b=>exact ⟨_,rfl,by rintro i b l' h;cases h⟩
  | ok i b l' =>
   obtain ⟨h1,h2,h3⟩:=h i b l' rfl;simp only at h3 ⊢;by_cases c4:pk s b≠41
   ·rw[if_pos c4];exact ⟨_,rfl,by rintro i b l' h;cases h⟩
   ·rw[if_neg c4];have hb:=zeN (s:=s) (j:=b) (by omega);refine ⟨_,rfl, ?_⟩;rintro i b l' h;cases h;exact ⟨by omega,by omega,by omega⟩
 | f+1,.row lv,a,l,ha,hl,hf=>by
  have mB:zaj s.size (zci lv) a<=f:=(by cases lv<;>simp only[zaj,zci] at hf ⊢<;>simp[zaj]<;>omega);have gf:∀ i b,a<=b->zaj s.size (.more lv i) b<=f:=(by intro i b h;cases lv<;>simp only[zaj] at hf ⊢<;>omega);obtain ⟨r,e,h⟩:=wY s f (zci lv) a l ha hl mB;rw[rd,e];cases r with
  | bad b=>exact ⟨_,rfl,by rintro i b l' h;cases h⟩
  | ok i b l' =>obtain ⟨h1,h2,h3⟩:=h i b l' rfl;have h3:a < b:=(by cases lv<;>exact h3);obtain ⟨r,e,h⟩:=wY s f (.more lv i) b l' h1 (by omega) (gf i b (by omega));refine ⟨r,e,fun i' b' l2 hr => ?_⟩;obtain ⟨q1,q2,q3⟩:=h i' b' l2 hr;simp only at q3 ⊢;exact ⟨q1,by omega,by omega⟩
 | f+1,.more lv j,a,l,ha,hl,hf=>by
  simp only[zaj] at hf;rw[rd];by_cases c:wK lv (pk s a)=false
  ·rw[if_pos c];refine ⟨_,rfl, ?_⟩;rintro i b l' h;cases h;exact ⟨ha,AJ _,AJ _⟩
  ·rw[if_neg c];have ak:a < s.size:=(by refine zeN (s:=s) (j:=a) fun e=>c ?_;rw[e];cases lv<;>rfl);have mB:zaj s.size (zci lv) (a+1)<=f:=(by cases lv<;>simp[zaj,zci]<;>omega);obtain ⟨r,e,h⟩:=wY s f (zci lv) (a+1) l (by omega) (by omega) mB;rw[e];cases r with
   | bad b=>exact ⟨_,rfl,by rintro i b l' h;cases h⟩
   | ok i b l' =>obtain ⟨h1,h2,h3⟩:=h i b l' rfl;have h3:a+1 < b:=(by cases lv<;>exact h3);simp only;rw[if_neg (by omega)];obtain ⟨r,e,h⟩:=wY s f (.more lv l'.length) b (l'++[⟨opC (pk s a),0,⟨#[]⟩,j,i⟩]) h1 (by simp only[AQ,Au,Bs];omega) (by simp only[zaj];omega);refine ⟨r,e,fun i' b' l2 hr => ?_⟩;obtain ⟨q1,q2,q3⟩:=h i' b' l2 hr;simp only[AQ,Au,Bs] at q2 q3 ⊢;exact ⟨q1,by omega,by omega⟩
def zjn {s:ByteArray} (h:s.size<=100):∃ r,readS s=some r:=by obtain ⟨r,e,_⟩:=wY s 404 (.row true) 0 [] (Bx _) (by simp;omega) (by simp only[zaj];omega);exact ⟨r,e⟩
def RdF (s:ByteArray) (m:Md) (a:Nat) (l:List Node) (r:PR):Prop:=∃ f,rd s f m a l=some r
section
variable {s:ByteArray} {a b i:Nat} {l l':List Node} {r:PR} {lv:Bool}
def RdF.row (h:RdF s (zci lv) a l (.ok i b l')) (k:RdF s (.more lv i) b l' r):RdF s (.row lv) a l r:=by obtain ⟨f,hf⟩:=h;obtain ⟨g,hg⟩:=k;refine ⟨f+g+1, ?_⟩;rw[rd,gL hf g];have:=gL hg f;rw[Co] at this;exact this
def RdF.stop (h:wK lv (pk s a)=false):RdF s (.more lv i) a l (.ok i a l):=⟨1,by rw[rd,if_pos h]⟩
def RdF.op {j:Nat} (c:wK lv (pk s a)=true) (h:RdF s (zci lv) (a+1) l (.ok i b l')) (hl:l'.length < 1000) (k:RdF s (.more lv l'.length) b (l'++[⟨opC (pk s a),0,⟨#[]⟩,j,i⟩]) r):RdF s (.more lv j) a l r:=by obtain ⟨f,hf⟩:=h;obtain ⟨g,hg⟩:=k;refine ⟨f+g+1, ?_⟩;rw[rd,if_neg (by rw[c];decide),gL hf g];simp only;rw[if_neg (by omega)];have:=gL hg f;rw[Co] at this;exact this
def RdF.num (h0:l.length < 1000) (c:dgB (pk s a)=true):RdF s .one a l (.ok l.length (ww s a 8 a) (l++[⟨1,(zfq (s.extract a (ww s a 8 a))).1,⟨#[]⟩,0,0⟩])):=⟨1,by rw[rd,if_neg (by omega),if_pos c]⟩
end
end
section
def pos_of_ne {α:Type} {l:List α} (h:l≠[]):0 < l.length:=CY.2 h
def At (s:ByteArray) (a:Nat) (t:List UInt8):Prop:=∃ r,s.data.toList.drop a=t++r
def At.get {s:ByteArray} {a:Nat} {t:List UInt8} (h:At s a t) {j:Nat} (hj:j < t.length):pk s (a+j)=(t[j]).toNat:=by
 obtain ⟨r,h⟩:=h;have h1:(s.data.toList.drop a)[j]? = some t[j]:=by rw[h,Ax hj,Aa hj]
 rw[Bu,BB] at h1;unfold pk;rw[h1]
def At.head {s:ByteArray} {a:Nat} {c:UInt8} {t:List UInt8} (h:At s a (c :: t)):pk s a=c.toNat:=by have:=h.get (j:=0) (by simp);simpa using this
def At.left {s:ByteArray} {a:Nat} {t u:List UInt8} (h:At s a (t++u)):At s a t:=by obtain ⟨r,h⟩:=h;exact ⟨u++r,by rw[h,AK]⟩
def At.right {s:ByteArray} {a:Nat} {t u:List UInt8} (h:At s a (t++u)):At s (a+t.length) u:=by obtain ⟨r,h⟩:=h;exact ⟨r,by rw[← List.drop_drop,h,AK,List.drop_left]⟩
def At.ext {s:ByteArray} {a:Nat} {t:List UInt8} (h:At s a t):s.extract a (a+t.length)=⟨t.toArray⟩:=by obtain ⟨r,h⟩:=h;have e:=ziF s a (a+t.length);rw[h,Nat.add_sub_cancel_left,List.take_left] at e;generalize s.extract a (a+t.length)=q at e ⊢;obtain ⟨⟨q⟩⟩:=q;simp at e;subst e;rfl
def At.le {s:ByteArray} {a:Nat} {t:List UInt8} (h:At s a t) (ah:t≠[]):a+t.length<=s.size:=by obtain ⟨r,h⟩:=h;have:=congrArg List.length h;have h2:s.data.toList.length=s.size:=rfl;have h3:0 < t.length:=pos_of_ne ah;rw[List.length_drop,AQ] at this;omega
end
section
def Fx.Wf:Fx->Prop
 | .num _=>True
 | .ref _=>True
 | .bin o a b=>3<=o∧a.Wf∧b.Wf
def Fx.Fine.wf:∀ {e:Fx},e.Fine->e.Wf
 | .num _,_=>trivial
 | .ref _,_=>trivial
 | .bin o a b,h=>⟨h.1,h.2.2.1.wf,h.2.2.2.wf⟩
end
end Ab
