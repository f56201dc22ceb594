import Derived.Test.YtchidgkpkhloeaaGreatDoorC8
open List (append_assoc getElem_mem length_append length_cons length_nil)
open Nat (add_comm add_zero)
set_option linter.unusedVariables false
set_option linter.unusedSimpArgs false
namespace Ab
open Go
section
theorem za3 (s:ByteArray):∀ (f:Nat) (m:Md) (a:Nat) (l:List Node) (r:PR),rd s f m a l=some r->rd s (f+1) m a l=some r
 | 0,_,_,_,_,h=>by cases h
 | f+1,.one,a,l,r,h=>by
  have ih:=fun lv q hs=>za3 s f (.row lv) (a+1) l q hs;rw[rd] at h;rw[rd];by_cases c0:1000<=l.length
  ·rw[if_pos c0] at h;cases h
  rw[if_neg c0] at h ⊢;by_cases c1:dgB (pk s a)=true
  ·rw[if_pos c1] at h ⊢;exact h
  rw[if_neg c1] at h ⊢;by_cases c2:ltB (pk s a)=true
  ·rw[if_pos c2] at h ⊢;exact h
  rw[if_neg c2] at h ⊢;by_cases c3:pk s a≠40
  ·rw[if_pos c3] at h ⊢;exact h
  rw[if_neg c3] at h ⊢;cases hs:rd s f (.row true) (a+1) l with
  | none=>rw[hs] at h;cases h
  | some q =>
   rw[hs] at h;rw[ih true q hs];exact h
 | f+1,.row lv,a,l,r,h=>by
  rw[rd] at h;rw[rd];cases hs:rd s f (zbV lv) a l with
  | none=>rw[hs] at h;cases h
  | some q =>
   rw[hs] at h;rw[za3 s f _ _ _ _ hs];cases q with
   | bad b=>exact h
   | ok i b l'=>exact za3 s f _ _ _ _ h
 | f+1,.more lv j,a,l,r,h=>by
  rw[rd] at h;rw[rd];by_cases c:yh lv (pk s a)=false
  ·rw[if_pos c] at h ⊢;exact h
  rw[if_neg c] at h ⊢;cases hs:rd s f (zbV lv) (a+1) l with
  | none=>rw[hs] at h;cases h
  | some q =>
   rw[hs] at h;rw[za3 s f _ _ _ _ hs];cases q with
   | bad b=>exact h
   | ok i b l' =>
    simp only at h ⊢;by_cases c2:1000<=l'.length
    ·rw[if_pos c2] at h;cases h
    ·rw[if_neg c2] at h ⊢;exact za3 s f _ _ _ _ h
theorem zck {s:ByteArray} {f:Nat} {m:Md} {a:Nat} {l:List Node} {r:PR} (h:rd s f m a l=some r):∀ k,rd s (f+k) m a l=some r
 | 0=>h
 | k+1=>za3 s _ _ _ _ _ (zck h k)
def w5 (n:Nat):Md->Nat->Nat
 | .one,a=>4 * (n - a)+1
 | .more _ _,a=>4 * (n - a)+2
 | .row false,a=>4 * (n - a)+3
 | .row true,a=>4 * (n - a)+4
theorem wH (s:ByteArray):∀ (f:Nat) (m:Md) (a:Nat) (l:List Node),a<=s.size->l.length+(s.size - a) < 1000->w5 s.size m a<=f->∃ r,rd s f m a l=some r∧∀ i b l',r=.ok i b l'->b<=s.size∧l'.length+(s.size - b)<=l.length+(s.size - a)∧(match m with | .more _ _=>a<=b | _=>a < b)
 | 0,m,a,l,_,_,h=>by
  cases m with
  | one=>simp[w5] at h
  | more lv i=>simp[w5] at h
  | row lv=>cases lv<;>simp[w5] at h
 | f+1,.one,a,l,ha,hl,hf=>by
  simp only[w5] at hf;rw[rd,if_neg (by omega)];by_cases c1:dgB (pk s a)=true
  ·rw[if_pos c1];obtain ⟨h1,h2,h3,h4⟩:=zak s a 8 a;have h5:=h4 ha;have hlt:a < yL s a 8 a:=by
    have:yL s a 8 a=yL s a 7 (a+1):=by
     show (if _ then _ else _)=_
     rw[if_pos ⟨c1,by omega,.inl rfl⟩]
    rw[this];exact (zak s a 7 (a+1)).1
   refine ⟨_,rfl, ?_⟩;rintro i b l' h;cases h;simp only[length_append,length_cons,length_nil];exact ⟨h5,by omega,hlt⟩
  rw[if_neg c1];by_cases c2:ltB (pk s a)=true
  ·rw[if_pos c2];obtain ⟨h1,h2,h4⟩:=zcu s (s.size+1) a;have h5:=h4 ha;have hlt:a < zbM s (s.size+1) a:=by
    have:zbM s (s.size+1) a=zbM s s.size (a+1):=by
     show (if _ then _ else _)=_
     rw[if_pos c2]
    rw[this];exact (zcu s s.size (a+1)).1
   refine ⟨_,rfl, ?_⟩;rintro i b l' h;cases h;simp only[length_append,length_cons,length_nil];exact ⟨h5,by omega,hlt⟩
  rw[if_neg c2];by_cases c3:pk s a≠40
  ·rw[if_pos c3];exact ⟨_,rfl,by rintro i b l' h;cases h⟩
  rw[if_neg c3];have hlt:=zex (s:=s) (j:=a) (by omega);obtain ⟨r,e,h⟩:=wH s f (.row true) (a+1) l (by omega) (by omega) (by simp only[w5];omega);rw[e];cases r with
  | bad b=>exact ⟨_,rfl,by rintro i b l' h;cases h⟩
  | ok i b l' =>
   obtain ⟨h1,h2,h3⟩:=h i b l' rfl;simp only at h3 ⊢;by_cases c4:pk s b≠41
   ·rw[if_pos c4];exact ⟨_,rfl,by rintro i b l' h;cases h⟩
   ·rw[if_neg c4];have hb:=zex (s:=s) (j:=b) (by omega);refine ⟨_,rfl, ?_⟩;rintro i b l' h;cases h;exact ⟨by omega,by omega,by omega⟩
 | f+1,.row lv,a,l,ha,hl,hf=>by
  have hf1:w5 s.size (zbV lv) a<=f:=by
   cases lv<;>simp only[w5,zbV] at hf ⊢<;>simp[w5]<;>omega
  have hf2:∀ i b,a<=b->w5 s.size (.more lv i) b<=f:=by
   intro i b h;cases lv<;>simp only[w5] at hf ⊢<;>omega
  obtain ⟨r,e,h⟩:=wH s f (zbV lv) a l ha hl hf1;rw[rd,e];cases r with
  | bad b=>exact ⟨_,rfl,by rintro i b l' h;cases h⟩
  | ok i b l' =>
   obtain ⟨h1,h2,h3⟩:=h i b l' rfl;have h3:a < b:=by
    cases lv<;>exact h3
   obtain ⟨r,e,h⟩:=wH s f (.more lv i) b l' h1 (by omega) (hf2 i b (by omega));refine ⟨r,e,fun i' b' l2 hr => ?_⟩;obtain ⟨q1,q2,q3⟩:=h i' b' l2 hr;simp only at q3 ⊢;exact ⟨q1,by omega,by omega⟩
 | f+1,.more lv j,a,l,ha,hl,hf=>by
  simp only[w5] at hf;rw[rd];by_cases c:yh lv (pk s a)=false
  ·rw[if_pos c];refine ⟨_,rfl, ?_⟩;rintro i b l' h;cases h;exact ⟨ha,Nat.le_refl _,Nat.le_refl _⟩
  ·rw[if_neg c];have hlt:a < s.size:=by
    refine zex (s:=s) (j:=a) fun e=>c ?_;rw[e];cases lv<;>rfl
   have hf1:w5 s.size (zbV lv) (a+1)<=f:=by
    cases lv<;>simp[w5,zbV]<;>omega
   obtain ⟨r,e,h⟩:=wH s f (zbV lv) (a+1) l (by omega) (by omega) hf1;rw[e];cases r with
   | bad b=>exact ⟨_,rfl,by rintro i b l' h;cases h⟩
   | ok i b l' =>
    obtain ⟨h1,h2,h3⟩:=h i b l' rfl;have h3:a+1 < b:=by
     cases lv<;>exact h3
    simp only;rw[if_neg (by omega)];obtain ⟨r,e,h⟩:=wH s f (.more lv l'.length) b (l'++[⟨opC (pk s a),0,⟨#[]⟩,j,i⟩]) h1 (by simp only[length_append,length_cons,length_nil];omega) (by simp only[w5];omega);refine ⟨r,e,fun i' b' l2 hr => ?_⟩;obtain ⟨q1,q2,q3⟩:=h i' b' l2 hr;simp only[length_append,length_cons,length_nil] at q2 q3 ⊢;exact ⟨q1,by omega,by omega⟩
theorem zdQ {s:ByteArray} (h:s.size<=100):∃ r,zi0 s=some r:=by
 obtain ⟨r,e,_⟩:=wH s 404 (.row true) 0 [] (Nat.zero_le _) (by simp;omega) (by simp only[w5];omega);exact ⟨r,e⟩
def RdF (s:ByteArray) (m:Md) (a:Nat) (l:List Node) (r:PR):Prop:=∃ f,rd s f m a l=some r
theorem rd_read {s:ByteArray} (h:s.size<=100) {r:PR} (hr:RdF s (.row true) 0 [] r):zi0 s=some r:=by
 obtain ⟨r',e⟩:=zdQ h;obtain ⟨f,hf⟩:=hr;unfold zi0 at e ⊢;have h1:=zck e f;have h2:=zck hf 404;rw[add_comm] at h2;rw[e];exact h1.symm.trans h2
section
variable {s:ByteArray} {a b i:Nat} {l l':List Node} {r:PR} {lv:Bool}
theorem RdF.row (h:RdF s (zbV lv) a l (.ok i b l')) (k:RdF s (.more lv i) b l' r):RdF s (.row lv) a l r:=by
 obtain ⟨f,hf⟩:=h;obtain ⟨g,hg⟩:=k;refine ⟨f+g+1, ?_⟩;rw[rd,zck hf g];have:=zck hg f;rw[add_comm] at this;exact this
theorem RdF.stop (h:yh lv (pk s a)=false):RdF s (.more lv i) a l (.ok i a l):=⟨1,by rw[rd,if_pos h]⟩
theorem RdF.op {j:Nat} (c:yh lv (pk s a)=true) (h:RdF s (zbV lv) (a+1) l (.ok i b l')) (hl:l'.length < 1000) (k:RdF s (.more lv l'.length) b (l'++[⟨opC (pk s a),0,⟨#[]⟩,j,i⟩]) r):RdF s (.more lv j) a l r:=by
 obtain ⟨f,hf⟩:=h;obtain ⟨g,hg⟩:=k;refine ⟨f+g+1, ?_⟩;rw[rd,if_neg (by rw[c];decide),zck hf g];simp only;rw[if_neg (by omega)];have:=zck hg f;rw[add_comm] at this;exact this
theorem RdF.par (h0:l.length < 1000) (c:pk s a=40) (h:RdF s (.row true) (a+1) l (.ok i b l')) (d:pk s b=41):RdF s .one a l (.ok i (b+1) l'):=by
 obtain ⟨f,hf⟩:=h;refine ⟨f+1, ?_⟩;rw[rd,if_neg (by omega),c,if_neg (by decide),if_neg (by decide),if_neg (by decide),hf];simp only;rw[if_neg (by omega)]
theorem RdF.num (h0:l.length < 1000) (c:dgB (pk s a)=true):RdF s .one a l (.ok l.length (yL s a 8 a) (l++[⟨1,(zc5 (s.extract a (yL s a 8 a))).1,⟨#[]⟩,0,0⟩])):=⟨1,by rw[rd,if_neg (by omega),if_pos c]⟩
theorem RdF.nam (h0:l.length < 1000) (c:dgB (pk s a)=false) (d:ltB (pk s a)=true):RdF s .one a l (.ok l.length (zbM s (s.size+1) a) (l++[⟨2,0,s.extract a (zbM s (s.size+1) a),0,0⟩])):=⟨1,by rw[rd,if_neg (by omega),if_neg (by rw[c];decide),if_pos d]⟩
end
end
section
theorem zaz {α:Type} {l:List α} (h:l≠[]):0 < l.length:=List.length_pos_iff.2 h
def At (s:ByteArray) (a:Nat) (t:List UInt8):Prop:=∃ r,s.data.toList.drop a=t++r
theorem At.get {s:ByteArray} {a:Nat} {t:List UInt8} (h:At s a t) {j:Nat} (hj:j < t.length):pk s (a+j)=(t[j]).toNat:=by
 obtain ⟨r,h⟩:=h;have h1:(s.data.toList.drop a)[j]? = some t[j]:=by rw[h,List.getElem?_append_left hj,List.getElem?_eq_getElem hj]
 rw[List.getElem?_drop,Array.getElem?_toList] at h1;unfold pk;rw[h1]
theorem At.head {s:ByteArray} {a:Nat} {c:UInt8} {t:List UInt8} (h:At s a (c :: t)):pk s a=c.toNat:=by
 have:=h.get (j:=0) (by simp);simpa using this
theorem At.left {s:ByteArray} {a:Nat} {t u:List UInt8} (h:At s a (t++u)):At s a t:=by
 obtain ⟨r,h⟩:=h;exact ⟨u++r,by rw[h,append_assoc]⟩
theorem At.right {s:ByteArray} {a:Nat} {t u:List UInt8} (h:At s a (t++u)):At s (a+t.length) u:=by
 obtain ⟨r,h⟩:=h;exact ⟨r,by rw[← List.drop_drop,h,append_assoc,List.drop_left]⟩
theorem At.ext {s:ByteArray} {a:Nat} {t:List UInt8} (h:At s a t):s.extract a (a+t.length)=⟨t.toArray⟩:=by
 obtain ⟨r,h⟩:=h;have e:=zic s a (a+t.length);rw[h,Nat.add_sub_cancel_left,List.take_left] at e;generalize s.extract a (a+t.length)=q at e ⊢;obtain ⟨⟨q⟩⟩:=q;simp at e;subst e;rfl
theorem at_all (s:ByteArray):At s 0 s.data.toList:=⟨[],by simp⟩
theorem bl_app (a b:ByteArray):(a++b).data.toList=a.data.toList++b.data.toList:=by
 rw[ByteArray.data_append,Array.toList_append]
theorem zgp (a:ByteArray):a.data.toList.length=a.size:=rfl
theorem bl_par (c:Bool) (t:ByteArray):(yw c t).data.toList=if c=true then 40 :: (t.data.toList++[41]) else t.data.toList:=by
 cases c with
 | false=>rfl
 | true =>
  unfold yw;rw[if_pos rfl,bl_app,bl_app,if_pos rfl];rfl
def Bd (c:Nat):Prop:=dgB c=false∧ltB c=false
theorem dec_head:∀ (u:Nat),10<=u->∀ c r,Lib.decDigits u=c :: r->c.toNat≠48:=by
 intro u
 induction u using Nat.strongRecOn with
 | _ u ih =>
  intro hu c r h;rw[Lib.decDigits,dif_neg (by omega)] at h;by_cases h9:u / 10 < 10
  ·rw[Lib.decDigits,dif_pos h9] at h;simp only[List.singleton_append,List.cons.injEq] at h;obtain ⟨rfl,_⟩:=h;rw[zcN h9];omega
  ·cases hd:Lib.decDigits (u / 10) with
   | nil=>exact absurd hd (zik _)
   | cons c' r' =>
    rw[hd] at h;simp only[List.cons_append,List.cons.injEq] at h;obtain ⟨rfl,_⟩:=h;exact ih (u / 10) (by omega) (by omega) _ _ hd
theorem numE_at {s:ByteArray} {a:Nat} {ds:List UInt8} (h:At s a ds) (hd:∀ c∈ds,48<=c.toNat∧c.toNat<=57) (hl:ds.length<=7) (h0:ds.length=1∨pk s a≠48) (hb:Bd (pk s (a+ds.length))) :
  ∀ (m k:Nat),k+m=ds.length->∀ f,m < f->yL s a f (a+k)=a+ds.length
 | 0,k,hk,f,hf=>by
  obtain ⟨f,rfl⟩:∃ g,f=g+1:=⟨f - 1,by omega⟩;obtain rfl:k=ds.length:=by omega
  rw[yL,if_neg (by rw[hb.1];simp)]
 | m+1,k,hk,f,hf=>by
  obtain ⟨f,rfl⟩:∃ g,f=g+1:=⟨f - 1,by omega⟩;have hg:=h.get (j:=k) (by omega);have hc:=hd ds[k] (getElem_mem _);have hdg:dgB (pk s (a+k))=true:=by rw[hg];simp[dgB,hc.1,hc.2]
  rw[yL,if_pos ⟨hdg,by omega,by
   rcases h0 with h0 | h0
   ·exact .inl (by omega)
   ·exact .inr h0⟩]
  exact numE_at h hd hl h0 hb m (k+1) (by omega) f (by omega)
theorem namE_at {s:ByteArray} {a:Nat} {t:List UInt8} (h:At s a t) (hd:∀ c∈t,ltB c.toNat=true) (hb:Bd (pk s (a+t.length))):∀ (m k:Nat),k+m=t.length->∀ f,m < f->zbM s f (a+k)=a+t.length
 | 0,k,hk,f,hf=>by
  obtain ⟨f,rfl⟩:∃ g,f=g+1:=⟨f - 1,by omega⟩;obtain rfl:k=t.length:=by omega
  rw[zbM,if_neg (by rw[hb.2];simp)]
 | m+1,k,hk,f,hf=>by
  obtain ⟨f,rfl⟩:∃ g,f=g+1:=⟨f - 1,by omega⟩;have hg:=h.get (j:=k) (by omega);rw[zbM,if_pos (by rw[hg];exact hd _ (getElem_mem _))];exact namE_at h hd hb m (k+1) (by omega) f (by omega)
theorem At.le {s:ByteArray} {a:Nat} {t:List UInt8} (h:At s a t) (hne:t≠[]):a+t.length<=s.size:=by
 obtain ⟨r,h⟩:=h;have:=congrArg List.length h;have h2:s.data.toList.length=s.size:=rfl;have h3:0 < t.length:=zaz hne;rw[List.length_drop,length_append] at this;omega
def RdA (e:Fx):Prop:=∀ (s:ByteArray) (a:Nat) (l:List Node),l.length+e.sz < 1000->At s a (yw (decide (3<=e.op)) e.text).data.toList->Bd (pk s (a+(yw (decide (3<=e.op)) e.text).size)) ->
 RdF s .one a l (.ok (l.length+e.sz - 1) (a+(yw (decide (3<=e.op)) e.text).size) (l++e.po l.length))
def RdB (e:Fx):Prop:=∀ (s:ByteArray) (a:Nat) (l:List Node) (R:PR),l.length+e.sz < 1000->At s a (yw (decide (3<=e.op) && !tight e.op) e.text).data.toList->Bd (pk s (a+(yw (decide (3<=e.op) && !tight e.op) e.text).size)) ->
 RdF s (.more false (l.length+e.sz - 1)) (a+(yw (decide (3<=e.op) && !tight e.op) e.text).size) (l++e.po l.length) R->RdF s (.row false) a l R
def RdC (e:Fx):Prop:=∀ (s:ByteArray) (a:Nat) (l:List Node) (R:PR),l.length+e.sz < 1000->At s a e.text.data.toList->Bd (pk s (a+e.text.size))->yh false (pk s (a+e.text.size))=false ->
 RdF s (.more true (l.length+e.sz - 1)) (a+e.text.size) (l++e.po l.length) R->RdF s (.row true) a l R
theorem b_of_a {e:Fx} (h:RdA e) (hq:decide (3<=e.op)=(decide (3<=e.op) && !tight e.op)):RdB e:=fun s a l R hl ha hb k=>by
 rw[← hq] at ha hb k;exact RdF.row (lv:=false) (h s a l hl ha hb) k
theorem c_of_b {e:Fx} (h:RdB e) (hq:(decide (3<=e.op) && !tight e.op)=false):RdC e:=fun s a l R hl ha hb hi k=>by
 have h1:=h s a l (.ok (l.length+e.sz - 1) (a+e.text.size) (l++e.po l.length)) hl;rw[hq] at h1;exact RdF.row (lv:=true) (h1 ha hb (RdF.stop hi)) k
theorem a_of_c {e:Fx} (h:RdC e) (hq:decide (3<=e.op)=true):RdA e:=fun s a l hl ha hb=>by
 rw[hq] at ha hb ⊢;have hsz:(yw true e.text).size=e.text.size+2:=by
  rw[← zgp,bl_par,if_pos rfl];simp only[length_cons,length_append,length_nil,zgp]
 rw[hsz] at hb ⊢;rw[bl_par,if_pos rfl] at ha;have h40:=ha.head;have h1:At s (a+1) (e.text.data.toList++[41]):=At.right (t:=[40]) ha;have h41:=h1.right.head;rw[zgp] at h41;have e41:pk s (a+1+e.text.size)=41:=h41;have:=h s (a+1) l (.ok (l.length+e.sz - 1) (a+1+e.text.size) (l++e.po l.length)) hl h1.left (by rw[e41];exact ⟨rfl,rfl⟩) (by rw[e41];rfl) (RdF.stop (by rw[e41];rfl));have r:=RdF.par (by have:=e.sz_pos;omega) h40 this e41;rw[show a+(e.text.size+2)=a+1+e.text.size+1 by omega];exact r
theorem sgB_ok {o:Int} (h:3<=o∧o<=6):∃ c:UInt8,(sgB o).data.toList=[c]∧opC c.toNat=o∧Bd c.toNat∧(tight o=true->yh false c.toNat=true)∧(tight o=false->yh true c.toNat=true∧yh false c.toNat=false):=by
 have:o=3∨o=4∨o=5∨o=6:=by omega
 rcases this with rfl | rfl | rfl | rfl
 ·exact ⟨43,by decide,by decide,by constructor<;>decide,by decide,by decide⟩
 ·exact ⟨45,by decide,by decide,by constructor<;>decide,by decide,by decide⟩
 ·exact ⟨42,by decide,by decide,by constructor<;>decide,by decide,by decide⟩
 ·exact ⟨47,by decide,by decide,by constructor<;>decide,by decide,by decide⟩
theorem po_bin (o:Int) (a b:Fx) (l:List Node):l++(Fx.bin o a b).po l.length=(l++a.po l.length)++b.po (l++a.po l.length).length++[⟨o,0,⟨#[]⟩,((l.length+a.sz - 1:Nat):Int),(((l++a.po l.length).length+b.sz - 1:Nat):Int)⟩]:=by
 simp only[Fx.po,length_append,qK,append_assoc]
theorem ziw (o:Int) (a b:Fx):(Fx.bin o a b).text.data.toList=(yw (lpar o a.op) a.text).data.toList++((sgB o).data.toList++(yw (rpar o b.op) b.text).data.toList):=by
 simp only[Fx.text,bl_app,append_assoc]
theorem zix (o:Int) (a b:Fx):(Fx.bin o a b).text.size=(yw (lpar o a.op) a.text).size+1+(yw (rpar o b.op) b.text).size:=by
 simp only[Fx.text,ByteArray.size_append,sgB_size]
theorem zeu:∀ e:Fx,e.Fine->RdA e∧RdB e∧RdC e
 | .num n,hf=>by
  have hA:RdA (.num n):=fun s a l hl ha hb=>by
   obtain ⟨h1,h2⟩:=hf;have ha:At s a (Lib.itoa n):=by
    have:(yw (decide (3<=(Fx.num n).op)) (Fx.num n).text).data.toList=Lib.itoa n:=zjb n
    rwa [this] at ha
   have hsz:(yw (decide (3<=(Fx.num n).op)) (Fx.num n).text).size=(Lib.itoa n).length:=zja n;rw[hsz] at hb ⊢;have hit:Lib.itoa n=Lib.decDigits n.toNat:=by unfold Lib.itoa;rw[if_neg (by omega)]
   have hd:∀ c∈Lib.itoa n,48<=c.toNat∧c.toNat<=57:=fun c hc=>zgi n.toNat c (by rw[← hit];exact hc);have hlen:(Lib.itoa n).length<=7:=by rw[hit];exact dec_len 6 n.toNat (by omega)
   have hne:Lib.itoa n≠[]:=by rw[hit];exact zik _
   have h0:(Lib.itoa n).length=1∨pk s a≠48:=by
    by_cases c:n.toNat < 10
    ·left;rw[hit,Lib.decDigits,dif_pos c];rfl
    ·right;cases hq:Lib.itoa n with
     | nil=>exact absurd hq hne
     | cons c r =>
      rw[hq] at ha;rw[ha.head];exact dec_head n.toNat (by omega) c r (by rw[← hit];exact hq)
   have hE:=numE_at ha hd hlen h0 hb (Lib.itoa n).length 0 (by omega) 8 (by omega);rw[add_zero] at hE;have hg:=ha.get (j:=0) (zaz hne);have hc:=hd _ (getElem_mem (zaz hne));have r:=RdF.num (s:=s) (a:=a) (l:=l) (by omega) (by rw[← add_zero a,hg];simp[dgB,hc.1,hc.2]);rw[hE,ha.ext] at r;have hv:(zc5 ⟨(Lib.itoa n).toArray⟩).1=n:=by
    unfold zc5;rw[atoi_itoa (by omega)]
   rw[hv] at r;exact r
  have hB:=b_of_a hA rfl;exact ⟨hA,hB,c_of_b hB rfl⟩
 | .ref v,hf=>by
  have hA:RdA (.ref v):=fun s a l hl ha hb=>by
   have hf:zI v=false:=hf;have hsize:=zfU hf;have ha:At s a v.data.toList:=ha;have hb:Bd (pk s (a+v.data.toList.length)):=hb;have hd:∀ c∈v.data.toList,97<=c.toNat∧c.toNat<=122:=fun c hc=>by
    unfold zI at hf;simp only[Bool.or_eq_false_iff] at hf;have:=List.any_eq_false.1 hf.2.2 c hc;simp only[Bool.or_eq_true,decide_eq_true_eq,not_or] at this;omega
   have hlt:∀ c∈v.data.toList,ltB c.toNat=true:=fun c hc=>by
    have:=hd c hc;simp[ltB,this.1,this.2]
   have hlen:v.data.toList.length=v.size:=rfl;have hne:v.data.toList≠[]:=fun e=>by rw[e] at hlen;simp at hlen;omega
   have hp:=zaz hne;have hle:=ha.le hne;have hE:zbM s (s.size+1) a=a+v.data.toList.length:=namE_at ha hlt hb v.data.toList.length 0 (by omega) (s.size+1) (by omega);have hg:=ha.get (j:=0) hp;rw[add_zero] at hg;have hc:=hd _ (getElem_mem hp);have r:=RdF.nam (s:=s) (a:=a) (l:=l) (by omega) (by rw[hg];generalize v.data.toList[0]=q at hc;simp only[dgB,Bool.and_eq_false_iff,decide_eq_false_iff_not];omega) (by rw[hg];exact hlt _ (getElem_mem hp));rw[hE,ha.ext] at r;have hv:(⟨v.data.toList.toArray⟩:ByteArray)=v:=rfl;rw[hv] at r;exact r
  have hB:=b_of_a hA rfl;exact ⟨hA,hB,c_of_b hB rfl⟩
 | .bin o x y,hf=>by
  obtain ⟨g1,g2,g3,g4⟩:=hf;obtain ⟨ax,bx,cx⟩:=zeu x g3;obtain ⟨ay,by_,cy⟩:=zeu y g4;obtain ⟨c,hc1,hc2,hc3,hc4,hc5⟩:=sgB_ok ⟨g1,g2⟩;have p1:=x.sz_pos;have p2:=y.sz_pos;have hop:(Fx.bin o x y).op=o:=rfl;have hz:(Fx.bin o x y).sz=x.sz+y.sz+1:=rfl;cases ht:tight o with
  | true =>
   have hB:RdB (.bin o x y):=fun s a l R hl ha hb k=>by
    rw[hop,ht,Bool.not_true,Bool.and_false] at ha hb k;have ha:At s a (Fx.bin o x y).text.data.toList:=ha;rw[show yw false (Fx.bin o x y).text=(Fx.bin o x y).text from rfl,zix] at hb k;rw[ziw,hc1] at ha;have e1:lpar o x.op=(decide (3<=x.op) && !tight x.op):=by unfold lpar;rw[ht,Bool.true_and]
    have e2:rpar o y.op=decide (3<=y.op):=by unfold rpar;rw[ht,Bool.true_or,Bool.and_true]
    rw[e1,e2] at ha hb k;have hs:=ha.right;rw[zgp] at hs;have hpk:=hs.head;refine bx s a l R (by omega) ha.left (by rw[hpk];exact hc3) ?_;refine RdF.op (lv:=false) (by rw[hpk];exact hc4 ht) (ay s _ _ (by rw[length_append,qK];omega) (At.right (t:=[c]) hs) ?_) (by simp only[length_append,qK];omega) ?_
    ·rw[show a+(yw (decide (3<=x.op) && !tight x.op) x.text).size+1+(yw (decide (3<=y.op)) y.text).size=a+((yw (decide (3<=x.op) && !tight x.op) x.text).size+1+(yw (decide (3<=y.op)) y.text).size) by omega];exact hb
    ·rw[hpk,hc2];rw[po_bin] at k;rw[show (l++x.po l.length++y.po (l++x.po l.length).length).length=l.length+(Fx.bin o x y).sz - 1 by simp only[length_append,qK,hz];omega];rw[show a+(yw (decide (3<=x.op) && !tight x.op) x.text).size+1+(yw (decide (3<=y.op)) y.text).size=a+((yw (decide (3<=x.op) && !tight x.op) x.text).size+1+(yw (decide (3<=y.op)) y.text).size) by omega];exact k
   have hC:=c_of_b hB (by rw[hop,ht,Bool.not_true,Bool.and_false]);exact ⟨a_of_c hC (decide_eq_true g1),hB,hC⟩
  | false =>
   have hC:RdC (.bin o x y):=fun s a l R hl ha hb hi k=>by
    rw[zix] at hb hi k;rw[ziw,hc1] at ha;have e1:lpar o x.op=false:=by unfold lpar;rw[ht,Bool.false_and,Bool.and_false]
    have e2:rpar o y.op=(decide (3<=y.op) && !tight y.op):=by unfold rpar;rw[ht,Bool.false_or]
    rw[e1,e2] at ha hb hi k;have hs:=ha.right;rw[zgp] at hs;have hpk:=hs.head;have eq:a+x.text.size+[c].length+(yw (decide (3<=y.op) && !tight y.op) y.text).size=a+((yw false x.text).size+1+(yw (decide (3<=y.op) && !tight y.op) y.text).size):=by
     show a+x.text.size+1+_=a+(x.text.size+1+_);omega
    refine cx s a l R (by omega) ha.left (by rw[show x.text.size=(yw false x.text).size from rfl,hpk];exact hc3) (by rw[show x.text.size=(yw false x.text).size from rfl,hpk];exact (hc5 ht).2) ?_;have hsub:RdF s (.row false) (a+x.text.size+1) (l++x.po l.length) (.ok ((l++x.po l.length).length+y.sz - 1) (a+x.text.size+1+(yw (decide (3<=y.op) && !tight y.op) y.text).size) ((l++x.po l.length)++y.po (l++x.po l.length).length)):=by
     refine by_ s _ _ _ (by rw[length_append,qK];omega) (At.right (t:=[c]) hs) ?_ (RdF.stop ?_)
     ·rw[show a+x.text.size+1+(yw (decide (3<=y.op) && !tight y.op) y.text).size=a+((yw false x.text).size+1+(yw (decide (3<=y.op) && !tight y.op) y.text).size) from eq];exact hb
     ·rw[show a+x.text.size+1+(yw (decide (3<=y.op) && !tight y.op) y.text).size=a+((yw false x.text).size+1+(yw (decide (3<=y.op) && !tight y.op) y.text).size) from eq];exact hi
    have hpk':pk s (a+x.text.size)=c.toNat:=hpk;refine RdF.op (lv:=true) (by rw[hpk'];exact (hc5 ht).1) hsub (by simp only[length_append,qK];omega) ?_;rw[hpk',hc2];rw[po_bin] at k;rw[show (l++x.po l.length++y.po (l++x.po l.length).length).length=l.length+(Fx.bin o x y).sz - 1 by simp only[length_append,qK,hz];omega];rw[show a+x.text.size+1+(yw (decide (3<=y.op) && !tight y.op) y.text).size=a+((yw false x.text).size+1+(yw (decide (3<=y.op) && !tight y.op) y.text).size) from eq];exact k
   have hA:=a_of_c hC (decide_eq_true g1);exact ⟨hA,b_of_a hA (by rw[hop,ht,Bool.not_false,Bool.and_true]),hC⟩
theorem read_back {e:Fx} (hf:e.Fine) (hz:e.sz<=900) (hs:e.text.size<=100):zi0 e.text=some (.ok (e.sz - 1) e.text.size (e.po 0)):=by
 refine rd_read hs ?_;have hpk:pk e.text (0+e.text.size)=0:=by
  unfold pk;rw[Array.getElem?_eq_none (by show e.text.size<=_;omega)]
 have:=(zeu e hf).2.2 e.text 0 [] (.ok (e.sz - 1) e.text.size (e.po 0)) (by simp;omega) (at_all _) (by rw[hpk];exact ⟨rfl,rfl⟩) (by rw[hpk];rfl) ?_
 ·exact this
 ·have h:=RdF.stop (s:=e.text) (a:=0+e.text.size) (i:=([]:List Node).length+e.sz - 1) (l:=[]++e.po ([]:List Node).length) (lv:=true) (by rw[hpk];rfl);simp only[length_nil,Nat.zero_add,List.nil_append] at h ⊢;exact h
theorem P248_back {e:Fx} (hf:e.Fine) (hz:e.sz<=30) (hs:e.text.size<=100):P248 e.text=some (e.po 0,0,.nil):=by
 have ok:=po_ok hf hz;unfold P248;rw[if_neg (by omega),read_back hf (by omega) hs];simp only;rw[if_neg (by omega),P241_eq,form_ok.2 ok];rfl
end
section
end
end Ab
