import Derived.Test.YtckaniphjiniiaaGreatDoorC8
set_option linter.all false
namespace Ab
open Go
section
def zba (n:Nat):Md->Nat->Nat
 | .one,a=>4*(n-a)+1
 | .more _ _,a=>4*(n-a)+2
 | .row false,a=>4*(n-a)+3
 | .row true,a=>4*(n-a)+4
def zaS (s:ByteArray):∀(f:Nat) (m:Md) (a:Nat) (l:List Node),a<=s.size->l.length+(s.size-a)<1000->zba s.size m a<=f->∃r,rd s f m a l=some r∧∀i b l',r=.ok i b l'->b<=s.size∧l'.length+(s.size-b)<=l.length+(s.size-a)∧(match m with | .more _ _=>a<=b|_=>a<b)
 | 0,m,a,l,_,_,h=>by
  cases m with
  | one=>simp[zba] at h
  | more lv i=>simp[zba] at h
  | row lv=>cases lv<;>simp[zba] at h
 | f+1,.one,a,l,ha,hl,hf=>by
  simp only[zba] at hf;rw[rd,if_neg (by omega)];by_cases c1:dgB (pk s a)=true
  ·rw[if_pos c1];obtain⟨h1,h2,h3,h4⟩:=zbp s a 8 a;have h5:=h4 ha;have aj:a<zaU s a 8 a:=by
    have:zaU s a 8 a=zaU s a 7 (a+1):=by
     show (if _ then _ else _)=_
     rw[if_pos ⟨c1,by omega,.inl rfl⟩]
    rw[this];exact (zbp s a 7 (a+1)).1
   refine⟨_,rfl, ?_⟩;rintro i b l' h;cases h;simp only[AB,Ax,BI];exact⟨h5,by omega,aj⟩
  rw[if_neg c1];by_cases c2:ltB (pk s a)=true
  ·rw[if_pos c2];obtain⟨h1,h2,h4⟩:=zep s (s.size+1) a;have h5:=h4 ha;have aj:a<zgY s (s.size+1) a:=by
    have:zgY s (s.size+1) a=zgY s s.size (a+1):=by
     show (if _ then _ else _)=_
     rw[if_pos c2]
    rw[this];exact (zep s s.size (a+1)).1
   refine⟨_,rfl, ?_⟩;rintro i b l' h;cases h;simp only[AB,Ax,BI];exact⟨h5,by omega,aj⟩
  rw[if_neg c2];by_cases c3:pk s a≠40
  ·rw[if_pos c3];exact⟨_,rfl,by rintro i b l' h;cases h⟩
  rw[if_neg c3];have aj:=zgP (s:=s) (j:=a) (by omega);obtain⟨r,e,h⟩:=zaS s f (.row true) (a+1) l (by omega) (by omega) (by simp only[zba];omega);rw[e];cases r with
  | bad b=>exact⟨_,rfl,by rintro i b l' h;cases h⟩
  | ok i b l' =>
   obtain⟨h1,h2,h3⟩:=h i b l' rfl;simp only at h3 ⊢;by_cases c4:pk s b≠41
   ·rw[if_pos c4];exact⟨_,rfl,by rintro i b l' h;cases h⟩
   ·rw[if_neg c4];have hb:=zgP (s:=s) (j:=b) (by omega);refine⟨_,rfl, ?_⟩;rintro i b l' h;cases h;exact⟨by omega,by omega,by omega⟩
 | f+1,.row lv,a,l,ha,hl,hf=>by
  have pZ:zba s.size (zfL lv) a<=f:=(by cases lv<;>simp only[zba,zfL] at hf ⊢<;>simp[zba]<;>omega);have iW:∀i b,a<=b->zba s.size (.more lv i) b<=f:=(by intro i b h;cases lv<;>simp only[zba] at hf ⊢<;>omega);obtain⟨r,e,h⟩:=zaS s f (zfL lv) a l ha hl pZ;rw[rd,e];cases r with
  | bad b=>exact⟨_,rfl,by rintro i b l' h;cases h⟩
  | ok i b l' =>obtain⟨h1,h2,h3⟩:=h i b l' rfl;have h3:a<b:=(by cases lv<;>exact h3);obtain⟨r,e,h⟩:=zaS s f (.more lv i) b l' h1 (by omega) (iW i b (by omega));refine⟨r,e,fun i' b' l2 hr => ?_⟩;obtain⟨q1,q2,q3⟩:=h i' b' l2 hr;simp only at q3 ⊢;exact⟨q1,by omega,by omega⟩
 | f+1,.more lv j,a,l,ha,hl,hf=>by
  simp only[zba] at hf;rw[rd];by_cases c:eI lv (pk s a)=false
  ·rw[if_pos c];refine⟨_,rfl, ?_⟩;rintro i b l' h;cases h;exact⟨ha,Az _,Az _⟩
  ·rw[if_neg c];have aj:a<s.size:=(by refine zgP (s:=s) (j:=a) fun e=>c ?_;rw[e];cases lv<;>rfl);have pZ:zba s.size (zfL lv) (a+1)<=f:=(by cases lv<;>simp[zba,zfL]<;>omega);obtain⟨r,e,h⟩:=zaS s f (zfL lv) (a+1) l (by omega) (by omega) pZ;rw[e];cases r with
   | bad b=>exact⟨_,rfl,by rintro i b l' h;cases h⟩
   | ok i b l' =>obtain⟨h1,h2,h3⟩:=h i b l' rfl;have h3:a+1<b:=(by cases lv<;>exact h3);simp only;rw[if_neg (by omega)];obtain⟨r,e,h⟩:=zaS s f (.more lv l'.length) b (l'++[⟨opC (pk s a),0,⟨#[]⟩,j,i⟩]) h1 (by simp only[AB,Ax,BI];omega) (by simp only[zba];omega);refine⟨r,e,fun i' b' l2 hr => ?_⟩;obtain⟨q1,q2,q3⟩:=h i' b' l2 hr;simp only[AB,Ax,BI] at q2 q3 ⊢;exact⟨q1,by omega,by omega⟩
def zmg {s:ByteArray} (h:s.size<=100):∃r,readS s=some r:=by obtain⟨r,e,_⟩:=zaS s 404 (.row true) 0 [] (BM _) (by simp;omega) (by simp only[zba];omega);exact⟨r,e⟩
section
variable {s:ByteArray} {a b i:Nat} {l l':List Node} {r:PR} {lv:Bool}
end
end
section
end
section
end
end Ab
