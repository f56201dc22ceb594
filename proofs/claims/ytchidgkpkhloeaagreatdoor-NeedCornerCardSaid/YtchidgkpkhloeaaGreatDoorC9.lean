import Derived.Test.YtchidgkpkhloeaaGreatDoorC8
open List (length_append length_cons length_nil)
set_option linter.unusedVariables false
set_option linter.unusedSimpArgs false
namespace Ab
open Go
section
def wN (n:Nat):Md->Nat->Nat
 | .one,a=>4 * (n - a)+1
 | .more _ _,a=>4 * (n - a)+2
 | .row false,a=>4 * (n - a)+3
 | .row true,a=>4 * (n - a)+4
theorem wt (s:ByteArray):∀ (f:Nat) (m:Md) (a:Nat) (l:List Node),a<=s.size->l.length+(s.size - a) < 1000->wN s.size m a<=f->∃ r,rd s f m a l=some r∧∀ i b l',r=.ok i b l'->b<=s.size∧l'.length+(s.size - b)<=l.length+(s.size - a)∧(match m with | .more _ _=>a<=b | _=>a < b)
 | 0,m,a,l,_,_,h=>by
  cases m with
  | one=>simp[wN] at h
  | more lv i=>simp[wN] at h
  | row lv=>cases lv<;>simp[wN] at h
 | f+1,.one,a,l,ha,hl,hf=>by
  simp only[wN] at hf;rw[rd,if_neg (by omega)];by_cases c1:dgB (pk s a)=true
  ·rw[if_pos c1];obtain ⟨h1,h2,h3,h4⟩:=w7 s a 8 a;have h5:=h4 ha;have hlt:a < wv s a 8 a:=by
    have:wv s a 8 a=wv s a 7 (a+1):=by
     show (if _ then _ else _)=_
     rw[if_pos ⟨c1,by omega,.inl rfl⟩]
    rw[this];exact (w7 s a 7 (a+1)).1
   refine ⟨_,rfl, ?_⟩;rintro i b l' h;cases h;simp only[length_append,length_cons,length_nil];exact ⟨h5,by omega,hlt⟩
  rw[if_neg c1];by_cases c2:ltB (pk s a)=true
  ·rw[if_pos c2];obtain ⟨h1,h2,h4⟩:=zbY s (s.size+1) a;have h5:=h4 ha;have hlt:a < zdU s (s.size+1) a:=by
    have:zdU s (s.size+1) a=zdU s s.size (a+1):=by
     show (if _ then _ else _)=_
     rw[if_pos c2]
    rw[this];exact (zbY s s.size (a+1)).1
   refine ⟨_,rfl, ?_⟩;rintro i b l' h;cases h;simp only[length_append,length_cons,length_nil];exact ⟨h5,by omega,hlt⟩
  rw[if_neg c2];by_cases c3:pk s a≠40
  ·rw[if_pos c3];exact ⟨_,rfl,by rintro i b l' h;cases h⟩
  rw[if_neg c3];have hlt:=zdN (s:=s) (j:=a) (by omega);obtain ⟨r,e,h⟩:=wt s f (.row true) (a+1) l (by omega) (by omega) (by simp only[wN];omega);rw[e];cases r with
  | bad b=>exact ⟨_,rfl,by rintro i b l' h;cases h⟩
  | ok i b l' =>
   obtain ⟨h1,h2,h3⟩:=h i b l' rfl;simp only at h3 ⊢;by_cases c4:pk s b≠41
   ·rw[if_pos c4];exact ⟨_,rfl,by rintro i b l' h;cases h⟩
   ·rw[if_neg c4];have hb:=zdN (s:=s) (j:=b) (by omega);refine ⟨_,rfl, ?_⟩;rintro i b l' h;cases h;exact ⟨by omega,by omega,by omega⟩
 | f+1,.row lv,a,l,ha,hl,hf=>by
  have hf1:wN s.size (zcX lv) a<=f:=(by cases lv<;>simp only[wN,zcX] at hf ⊢<;>simp[wN]<;>omega);have hf2:∀ i b,a<=b->wN s.size (.more lv i) b<=f:=(by intro i b h;cases lv<;>simp only[wN] at hf ⊢<;>omega);obtain ⟨r,e,h⟩:=wt s f (zcX lv) a l ha hl hf1;rw[rd,e];cases r with
  | bad b=>exact ⟨_,rfl,by rintro i b l' h;cases h⟩
  | ok i b l' =>obtain ⟨h1,h2,h3⟩:=h i b l' rfl;have h3:a < b:=(by cases lv<;>exact h3);obtain ⟨r,e,h⟩:=wt s f (.more lv i) b l' h1 (by omega) (hf2 i b (by omega));refine ⟨r,e,fun i' b' l2 hr => ?_⟩;obtain ⟨q1,q2,q3⟩:=h i' b' l2 hr;simp only at q3 ⊢;exact ⟨q1,by omega,by omega⟩
 | f+1,.more lv j,a,l,ha,hl,hf=>by
  simp only[wN] at hf;rw[rd];by_cases c:zaB lv (pk s a)=false
  ·rw[if_pos c];refine ⟨_,rfl, ?_⟩;rintro i b l' h;cases h;exact ⟨ha,Nat.le_refl _,Nat.le_refl _⟩
  ·rw[if_neg c];have hlt:a < s.size:=(by refine zdN (s:=s) (j:=a) fun e=>c ?_;rw[e];cases lv<;>rfl);have hf1:wN s.size (zcX lv) (a+1)<=f:=(by cases lv<;>simp[wN,zcX]<;>omega);obtain ⟨r,e,h⟩:=wt s f (zcX lv) (a+1) l (by omega) (by omega) hf1;rw[e];cases r with
   | bad b=>exact ⟨_,rfl,by rintro i b l' h;cases h⟩
   | ok i b l' =>obtain ⟨h1,h2,h3⟩:=h i b l' rfl;have h3:a+1 < b:=(by cases lv<;>exact h3);simp only;rw[if_neg (by omega)];obtain ⟨r,e,h⟩:=wt s f (.more lv l'.length) b (l'++[⟨opC (pk s a),0,⟨#[]⟩,j,i⟩]) h1 (by simp only[length_append,length_cons,length_nil];omega) (by simp only[wN];omega);refine ⟨r,e,fun i' b' l2 hr => ?_⟩;obtain ⟨q1,q2,q3⟩:=h i' b' l2 hr;simp only[length_append,length_cons,length_nil] at q2 q3 ⊢;exact ⟨q1,by omega,by omega⟩
theorem zhZ {s:ByteArray} (h:s.size<=100):∃ r,readS s=some r:=by obtain ⟨r,e,_⟩:=wt s 404 (.row true) 0 [] (Nat.zero_le _) (by simp;omega) (by simp only[wN];omega);exact ⟨r,e⟩
section
variable {s:ByteArray} {a b i:Nat} {l l':List Node} {r:PR} {lv:Bool}
end
end
section
def At (s:ByteArray) (a:Nat) (t:List UInt8):Prop:=∃ r,s.data.toList.drop a=t++r
theorem At.right {s:ByteArray} {a:Nat} {t u:List UInt8} (h:At s a (t++u)):At s (a+t.length) u:=by obtain ⟨r,h⟩:=h;exact ⟨r,by rw[← List.drop_drop,h,List.append_assoc,List.drop_left]⟩
end
section
end
end Ab
