import Derived.Test.YtkaifdgeigdbhaaGreatDoorC8
set_option linter.all false
namespace Ab
open Go
section
def zbP (s:ByteArray):∀ (f:Nat) (m:Md) (a:Nat) (l:List Node) (r:PR),rd s f m a l=some r->rd s (f+1) m a l=some r
 | 0,_,_,_,_,h=>by cases h
 | f+1,.one,a,l,r,h=>by
  have ih:=fun lv q hs=>zbP s f (.row lv) (a+1) l q hs;rw[rd] at h;rw[rd];by_cases c0:1000<=l.length
  ·rw[if_pos c0] at h;cases h
  rw[if_neg c0] at h ⊢;by_cases c1:dgB (pk s a)=true
  ·rw[if_pos c1] at h ⊢;exact h
  rw[if_neg c1] at h ⊢;by_cases c2:ltB (pk s a)=true
  ·rw[if_pos c2] at h ⊢;exact h
  rw[if_neg c2] at h ⊢;by_cases c3:pk s a≠40
  ·rw[if_pos c3] at h ⊢;exact h
  rw[if_neg c3] at h ⊢;cases hs:rd s f (.row true) (a+1) l with
  | none=>rw[hs] at h;cases h
  | some q =>rw[hs] at h;rw[ih true q hs];exact h
 | f+1,.row lv,a,l,r,h=>by
  rw[rd] at h;rw[rd];cases hs:rd s f (zcX lv) a l with
  | none=>rw[hs] at h;cases h
  | some q =>
   rw[hs] at h;rw[zbP s f _ _ _ _ hs];cases q with
   | bad b=>exact h
   | ok i b l'=>exact zbP s f _ _ _ _ h
 | f+1,.more lv j,a,l,r,h=>by
  rw[rd] at h;rw[rd];by_cases c:zag lv (pk s a)=false
  ·rw[if_pos c] at h ⊢;exact h
  rw[if_neg c] at h ⊢;cases hs:rd s f (zcX lv) (a+1) l with
  | none=>rw[hs] at h;cases h
  | some q =>
   rw[hs] at h;rw[zbP s f _ _ _ _ hs];cases q with
   | bad b=>exact h
   | ok i b l' =>
    simp only at h ⊢;by_cases c2:1000<=l'.length
    ·rw[if_pos c2] at h;cases h
    ·rw[if_neg c2] at h ⊢;exact zbP s f _ _ _ _ h
def zgR {s:ByteArray} {f:Nat} {m:Md} {a:Nat} {l:List Node} {r:PR} (h:rd s f m a l=some r):∀ k,rd s (f+k) m a l=some r
 | 0=>h
 | k+1=>zbP s _ _ _ _ _ (zgR h k)
def zaI (n:Nat):Md->Nat->Nat
 | .one,a=>4 * (n - a)+1
 | .more _ _,a=>4 * (n - a)+2
 | .row false,a=>4 * (n - a)+3
 | .row true,a=>4 * (n - a)+4
def zau (s:ByteArray):∀ (f:Nat) (m:Md) (a:Nat) (l:List Node),a<=s.size->l.length+(s.size - a) < 1000->zaI s.size m a<=f->∃ r,rd s f m a l=some r∧∀ i b l',r=.ok i b l'->b<=s.size∧l'.length+(s.size - b)<=l.length+(s.size - a)∧(match m with | .more _ _=>a<=b | _=>a < b)
 | 0,m,a,l,_,_,h=>by
  cases m with
  | one=>simp[zaI] at h
  | more lv i=>simp[zaI] at h
  | row lv=>cases lv<;>simp[zaI] at h
 | f+1,.one,a,l,ha,hl,hf=>by
  simp only[zaI] at hf;rw[rd,if_neg (by omega)];by_cases c1:dgB (pk s a)=true
  ·rw[if_pos c1];obtain ⟨h1,h2,h3,h4⟩:=zaU s a 8 a;have h5:=h4 ha;have al:a < wW s a 8 a:=by
    have:wW s a 8 a=wW s a 7 (a+1):=by
     show (if _ then _ else _)=_
     rw[if_pos ⟨c1,by omega,.inl rfl⟩]
    rw[this];exact (zaU s a 7 (a+1)).1
   refine ⟨_,rfl, ?_⟩;rintro i b l' h;cases h;simp only[Ax,As,BB];exact ⟨h5,by omega,al⟩
  rw[if_neg c1];by_cases c2:ltB (pk s a)=true
  ·rw[if_pos c2];obtain ⟨h1,h2,h4⟩:=zdB s (s.size+1) a;have h5:=h4 ha;have al:a < zfI s (s.size+1) a:=by
    have:zfI s (s.size+1) a=zfI s s.size (a+1):=by
     show (if _ then _ else _)=_
     rw[if_pos c2]
    rw[this];exact (zdB s s.size (a+1)).1
   refine ⟨_,rfl, ?_⟩;rintro i b l' h;cases h;simp only[Ax,As,BB];exact ⟨h5,by omega,al⟩
  rw[if_neg c2];by_cases c3:pk s a≠40
  ·rw[if_pos c3];exact ⟨_,rfl,by rintro i b l' h;cases h⟩
  rw[if_neg c3];have al:=zfB (s:=s) (j:=a) (by omega);obtain ⟨r,e,h⟩:=zau s f (.row true) (a+1) l (by omega) (by omega) (by simp only[zaI];omega);rw[e];cases r with
  | bad b=>exact ⟨_,rfl,by rintro i b l' h;cases h⟩
  | ok i b l' =>
   obtain ⟨h1,h2,h3⟩:=h i b l' rfl;simp only at h3 ⊢;by_cases c4:pk s b≠41
   ·rw[if_pos c4];exact ⟨_,rfl,by rintro i b l' h;cases h⟩
   ·rw[if_neg c4];have hb:=zfB (s:=s) (j:=b) (by omega);refine ⟨_,rfl, ?_⟩;rintro i b l' h;cases h;exact ⟨by omega,by omega,by omega⟩
 | f+1,.row lv,a,l,ha,hl,hf=>by
  have kQ:zaI s.size (zcX lv) a<=f:=(by cases lv<;>simp only[zaI,zcX] at hf ⊢<;>simp[zaI]<;>omega);have gO:∀ i b,a<=b->zaI s.size (.more lv i) b<=f:=(by intro i b h;cases lv<;>simp only[zaI] at hf ⊢<;>omega);obtain ⟨r,e,h⟩:=zau s f (zcX lv) a l ha hl kQ;rw[rd,e];cases r with
  | bad b=>exact ⟨_,rfl,by rintro i b l' h;cases h⟩
  | ok i b l' =>obtain ⟨h1,h2,h3⟩:=h i b l' rfl;have h3:a < b:=(by cases lv<;>exact h3);obtain ⟨r,e,h⟩:=zau s f (.more lv i) b l' h1 (by omega) (gO i b (by omega));refine ⟨r,e,fun i' b' l2 hr => ?_⟩;obtain ⟨q1,q2,q3⟩:=h i' b' l2 hr;simp only at q3 ⊢;exact ⟨q1,by omega,by omega⟩
 | f+1,.more lv j,a,l,ha,hl,hf=>by
  simp only[zaI] at hf;rw[rd];by_cases c:zag lv (pk s a)=false
  ·rw[if_pos c];refine ⟨_,rfl, ?_⟩;rintro i b l' h;cases h;exact ⟨ha,AF _,AF _⟩
  ·rw[if_neg c];have al:a < s.size:=(by refine zfB (s:=s) (j:=a) fun e=>c ?_;rw[e];cases lv<;>rfl);have kQ:zaI s.size (zcX lv) (a+1)<=f:=(by cases lv<;>simp[zaI,zcX]<;>omega);obtain ⟨r,e,h⟩:=zau s f (zcX lv) (a+1) l (by omega) (by omega) kQ;rw[e];cases r with
   | bad b=>exact ⟨_,rfl,by rintro i b l' h;cases h⟩
   | ok i b l' =>obtain ⟨h1,h2,h3⟩:=h i b l' rfl;have h3:a+1 < b:=(by cases lv<;>exact h3);simp only;rw[if_neg (by omega)];obtain ⟨r,e,h⟩:=zau s f (.more lv l'.length) b (l'++[⟨opC (pk s a),0,⟨#[]⟩,j,i⟩]) h1 (by simp only[Ax,As,BB];omega) (by simp only[zaI];omega);refine ⟨r,e,fun i' b' l2 hr => ?_⟩;obtain ⟨q1,q2,q3⟩:=h i' b' l2 hr;simp only[Ax,As,BB] at q2 q3 ⊢;exact ⟨q1,by omega,by omega⟩
def zj2 {s:ByteArray} (h:s.size<=100):∃ r,readS s=some r:=by obtain ⟨r,e,_⟩:=zau s 404 (.row true) 0 [] (BE _) (by simp;omega) (by simp only[zaI];omega);exact ⟨r,e⟩
def RdF (s:ByteArray) (m:Md) (a:Nat) (l:List Node) (r:PR):Prop:=∃ f,rd s f m a l=some r
section
variable {s:ByteArray} {a b i:Nat} {l l':List Node} {r:PR} {lv:Bool}
def RdF.row (h:RdF s (zcX lv) a l (.ok i b l')) (k:RdF s (.more lv i) b l' r):RdF s (.row lv) a l r:=by obtain ⟨f,hf⟩:=h;obtain ⟨g,hg⟩:=k;refine ⟨f+g+1, ?_⟩;rw[rd,zgR hf g];have:=zgR hg f;rw[CA] at this;exact this
def RdF.stop (h:zag lv (pk s a)=false):RdF s (.more lv i) a l (.ok i a l):=⟨1,by rw[rd,if_pos h]⟩
def RdF.op {j:Nat} (c:zag lv (pk s a)=true) (h:RdF s (zcX lv) (a+1) l (.ok i b l')) (hl:l'.length < 1000) (k:RdF s (.more lv l'.length) b (l'++[⟨opC (pk s a),0,⟨#[]⟩,j,i⟩]) r):RdF s (.more lv j) a l r:=by obtain ⟨f,hf⟩:=h;obtain ⟨g,hg⟩:=k;refine ⟨f+g+1, ?_⟩;rw[rd,if_neg (by rw[c];decide),zgR hf g];simp only;rw[if_neg (by omega)];have:=zgR hg f;rw[CA] at this;exact this
def RdF.num (h0:l.length < 1000) (c:dgB (pk s a)=true):RdF s .one a l (.ok l.length (wW s a 8 a) (l++[⟨1,(zge (s.extract a (wW s a 8 a))).1,⟨#[]⟩,0,0⟩])):=⟨1,by rw[rd,if_neg (by omega),if_pos c]⟩
end
end
section
def pos_of_ne {α:Type} {l:List α} (h:l≠[]):0 < l.length:=Dc.2 h
def At (s:ByteArray) (a:Nat) (t:List UInt8):Prop:=∃ r,s.data.toList.drop a=t++r
def At.get {s:ByteArray} {a:Nat} {t:List UInt8} (h:At s a t) {j:Nat} (hj:j < t.length):pk s (a+j)=(t[j]).toNat:=by
 obtain ⟨r,h⟩:=h;have h1:(s.data.toList.drop a)[j]? = some t[j]:=by rw[h,Aw hj,Aa hj]
 rw[Bm,Bp] at h1;unfold pk;rw[h1]
def At.head {s:ByteArray} {a:Nat} {c:UInt8} {t:List UInt8} (h:At s a (c :: t)):pk s a=c.toNat:=by have:=h.get (j:=0) (by simp);simpa using this
def At.left {s:ByteArray} {a:Nat} {t u:List UInt8} (h:At s a (t++u)):At s a t:=by obtain ⟨r,h⟩:=h;exact ⟨u++r,by rw[h,AG]⟩
def At.right {s:ByteArray} {a:Nat} {t u:List UInt8} (h:At s a (t++u)):At s (a+t.length) u:=by obtain ⟨r,h⟩:=h;exact ⟨r,by rw[← List.drop_drop,h,AG,List.drop_left]⟩
def At.ext {s:ByteArray} {a:Nat} {t:List UInt8} (h:At s a t):s.extract a (a+t.length)=⟨t.toArray⟩:=by obtain ⟨r,h⟩:=h;have e:=zjk s a (a+t.length);rw[h,Nat.add_sub_cancel_left,List.take_left] at e;generalize s.extract a (a+t.length)=q at e ⊢;obtain ⟨⟨q⟩⟩:=q;simp at e;subst e;rfl
def At.le {s:ByteArray} {a:Nat} {t:List UInt8} (h:At s a t) (ah:t≠[]):a+t.length<=s.size:=by obtain ⟨r,h⟩:=h;have:=congrArg List.length h;have h2:s.data.toList.length=s.size:=rfl;have h3:0 < t.length:=pos_of_ne ah;rw[Bb,Ax] at this;omega
end
section
def Fx.Wf:Fx->Prop
 | .num _=>True
 | .ref _=>True
 | .bin o a b=>3<=o∧a.Wf∧b.Wf
def Fx.Fine.wf:∀ {e:Fx},e.Fine->e.Wf
 | .num _,_=>trivial
 | .ref _,_=>trivial
 | .bin o a b,h=>⟨h.1,h.2.2.1.wf,h.2.2.2.wf⟩
end
end Ab
