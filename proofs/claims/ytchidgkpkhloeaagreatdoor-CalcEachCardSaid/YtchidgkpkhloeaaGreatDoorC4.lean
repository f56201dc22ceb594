import Derived.Test.YtchidgkpkhloeaaGreatDoorH2
open List (mem_cons_of_mem mem_cons_self)
open Nat (add_mul le_trans mul_assoc mul_comm)
set_option linter.unusedVariables false
set_option linter.unusedSimpArgs false
namespace Ab
open Go
section
def sizeN (o:List Dim):Nat:=o.foldr (fun d n=>d.members.length * n) 1
theorem digs_size (o:List Dim) (hp:∀ d∈o,0 < d.members.length):∀ (q s:Nat),s < sizeN o->qw o (q * sizeN o+s)=((qw o s).1,q):=by
 induction o with
 | nil=>intro q s hs;simp[sizeN] at hs;subst hs;simp[qw,sizeN]
 | cons d r ih =>
  intro q s hs;have hpr:∀ x∈r,0 < x.members.length:=fun x hx=>hp x (mem_cons_of_mem _ hx);have hd:=hp d mem_cons_self;have hS:sizeN (d :: r)=d.members.length * sizeN r:=rfl;have hSr:0 < sizeN r:=by
   cases h:sizeN r with
   | zero=>rw[hS,h] at hs;simp at hs
   | succ=>omega
  rw[hS] at hs ⊢;have hs1:s=(s / sizeN r) * sizeN r+s % sizeN r:=by rw[mul_comm];exact (Nat.div_add_mod s (sizeN r)).symm
  have hs2:s % sizeN r < sizeN r:=Nat.mod_lt _ hSr;have hs3:s / sizeN r < d.members.length:=Nat.div_lt_of_lt_mul (by rw[mul_comm];exact hs);have e1:q * (d.members.length * sizeN r)+s=(q * d.members.length+s / sizeN r) * sizeN r+s % sizeN r:=(by rw[add_mul,mul_assoc,Nat.add_assoc];omega);have d1:=ih hpr (q * d.members.length+s / sizeN r) (s % sizeN r) hs2;have d2:=ih hpr (s / sizeN r) (s % sizeN r) hs2;rw[← e1] at d1;rw[← hs1] at d2;simp only[qw,d1,d2];rw[Nat.add_comm (q * d.members.length),Nat.add_mul_mod_self_right,Nat.mod_eq_of_lt hs3,Nat.add_mul_div_right _ _ hd,Nat.div_eq_of_lt hs3,Nat.zero_add]
def allIn {α:Type}:List (α->Bool)->List α->Bool
 | f :: fs,x :: xs=>f x && allIn fs xs
 | _,_=>true
end
section
theorem size_fold:∀ (o:List Dim) (n:Nat),(∀ d∈o,0 < d.members.length)->n * sizeN o<=1000000000->o.foldl (fun n d=>wi (n * ((d.members.length:Nat):Int))) (n:Int)=((n * sizeN o:Nat):Int)
 | [],n,_,_=>by simp[sizeN]
 | d :: r,n,hp,hb=>by
  have hS:sizeN (d :: r)=d.members.length * sizeN r:=rfl;have hpr:∀ x∈r,0 < x.members.length:=fun x hx=>hp x (mem_cons_of_mem _ hx);rw[hS,← mul_assoc] at hb;have hr:0 < sizeN r:=by
   clear hb hS hp
   induction r with
   | nil=>simp[sizeN]
   | cons a r ih =>have h1:=hpr a mem_cons_self;have h2:=ih fun x hx=>hpr x (mem_cons_of_mem _ hx);show 0 < a.members.length * sizeN r;exact Nat.mul_pos h1 h2
  have hb2:n * d.members.length<=1000000000:=le_trans (Nat.le_mul_of_pos_right _ hr) hb;have hw:wi ((n:Int) * ((d.members.length:Nat):Int))=((n * d.members.length:Nat):Int):=(by rw[← Int.natCast_mul,qL (by omega) (by omega)]);rw[List.foldl_cons,hw,size_fold r _ hpr hb,hS,← mul_assoc]
theorem size_le:∀ (o:List Dim),(∀ d∈o,d.members.length<=12)->sizeN o<=12 ^ o.length
 | [],_=>by simp[sizeN]
 | d :: r,h=>by
  have h1:=h d mem_cons_self;have h2:=size_le r fun x hx=>h x (mem_cons_of_mem _ hx);show d.members.length * sizeN r<=_;rw[List.length_cons,Nat.pow_succ,mul_comm];exact Nat.mul_le_mul h2 h1
theorem pow_le {n:Nat} (h:n<=4):12 ^ n<=20736:=by have:(12:Nat) ^ n<=12 ^ 4:=Nat.pow_le_pow_right (by omega) h;simpa using this
theorem OutOk.sizeN {o:List Dim} (ok:OutOk o):zdF o=(sizeN o:Nat)∧Ab.sizeN o<=20736:=by have h1:=size_le o fun d hd=>(ok.dims d hd).len.2;have h2:=pow_le ok.len.2;refine ⟨?_,by omega⟩;have:=size_fold o 1 (fun d hd=>(ok.dims d hd).len.1) (by omega);rw[Nat.one_mul] at this;exact this
theorem wb {o:List Dim} (ok:OutOk o) (n:Nat):Fit o (qw o n).1:=by
 have hp:∀ d∈o,0 < d.members.length:=fun d hd=>(ok.dims d hd).len.1;refine ⟨ziT o n, ?_⟩;clear ok
 induction o with
 | nil=>intro i m d h;simp[qw] at h
 | cons d r ih =>
  intro i m e hm he;cases i with
  | zero =>simp only[qw,List.getElem?_cons_zero,Option.some.injEq] at hm he;subst hm;subst he;have:=Nat.mod_lt (qw r n).2 (hp d mem_cons_self);omega
  | succ i =>simp only[qw,List.getElem?_cons_succ] at hm he;exact ih (fun x hx=>hp x (mem_cons_of_mem _ hx)) i m e hm he
def we:List Dim->List Int->Nat
 | _ :: o,m :: p=>m.toNat * sizeN o+we o p
 | _,_=>0
theorem Fit.tail {d:Dim} {o:List Dim} {m:Int} {p:List Int} (h:Fit (d :: o) (m :: p)):(0<=m∧m < d.members.length)∧Fit o p :=
 ⟨h.mem 0 m d rfl rfl,by simpa using h.len,fun i m' d' hm hd=>h.mem (i+1) m' d' (by simpa using hm) (by simpa using hd)⟩
theorem zaG:∀ {o:List Dim} {p:List Int},Fit o p->we o p < sizeN o
 | [],[],_=>by simp[we,sizeN]
 | [],_ :: _,h=>by have:=h.len;simp at this
 | _ :: _,[],h=>by have:=h.len;simp at this
 | d :: o,m :: p,h=>by
  obtain ⟨h1,h2⟩:=h.tail;have:=zaG h2;have e:sizeN (d :: o)=d.members.length * sizeN o:=rfl;have h3:(m.toNat+1) * sizeN o<=d.members.length * sizeN o:=Nat.mul_le_mul_right _ (by omega);rw[add_mul] at h3;simp only[we,e];omega
theorem wV:∀ {o:List Dim} {p:List Int},(∀ d∈o,0 < d.members.length)->Fit o p->qw o (we o p)=(p,0)
 | [],[],_,_=>rfl
 | [],_ :: _,_,h=>by have:=h.len;simp at this
 | _ :: _,[],_,h=>by have:=h.len;simp at this
 | d :: o,m :: p,hp,h=>by
  obtain ⟨h1,h2⟩:=h.tail;have hpo:∀ d∈o,0 < d.members.length:=fun x hx=>hp x (mem_cons_of_mem _ hx);have ih:=wV hpo h2;have hd:=digs_size o hpo m.toNat (we o p) (zaG h2);have hlt:m.toNat < d.members.length:=by omega
  simp only[we,qw,hd,ih,Nat.mod_eq_of_lt hlt,Nat.div_eq_of_lt hlt];rw[Int.toNat_of_nonneg h1.1]
theorem ziw:∀ (o:List Dim) (p:List Int) (n:Nat),(∀ d∈o,0 < d.members.length)->Fit o p->(n+1) * sizeN o<=1000000000 ->
  (p.zip o).foldl (fun n x=>wi (wi (n * (x.2.members.length:Int))+x.1)) (n:Int)=((n * sizeN o+we o p:Nat):Int)
 | [],[],n,_,_,_=>by simp[sizeN,we]
 | [],_ :: _,_,_,h,_=>by have:=h.len;simp at this
 | _ :: _,[],_,_,h,_=>by have:=h.len;simp at this
 | d :: o,m :: p,n,hp,h,hb=>by
  obtain ⟨h1,h2⟩:=h.tail;have hpo:∀ d∈o,0 < d.members.length:=fun x hx=>hp x (mem_cons_of_mem _ hx);have e:sizeN (d :: o)=d.members.length * sizeN o:=rfl;have hpos:0 < sizeN o:=by have:=zaG h2;omega
  have hb1:(n * d.members.length+m.toNat+1) * sizeN o<=(n+1) * (d.members.length * sizeN o):=(by rw[← mul_assoc];refine Nat.mul_le_mul_right _ ?_;rw[add_mul,Nat.one_mul];omega);rw[e] at hb;have hle:n * d.members.length+m.toNat+1<=1000000000:=le_trans (Nat.le_mul_of_pos_right _ hpos) (le_trans hb1 hb);have ih:=ziw o p (n * d.members.length+m.toNat) hpo h2 (le_trans hb1 hb);simp only[List.zip_cons_cons,List.foldl_cons];have e1:wi ((n:Int) * ((d.members.length:Nat):Int))=((n * d.members.length:Nat):Int):=by
   have e0:(n:Int) * ((d.members.length:Nat):Int)=((n * d.members.length:Nat):Int):=by simp
   rw[e0,qL (by omega) (by omega)]
  have e2:wi (((n * d.members.length:Nat):Int)+m)=((n * d.members.length+m.toNat:Nat):Int):=(by rw[qL (by omega) (by omega)];omega);rw[e1,e2,ih];congr 1;simp only[we,e];rw[add_mul,mul_assoc,Nat.add_assoc]
theorem zeJ {o:List Dim} {p:List Int} (ok:OutOk o) (h:Fit o p):numW o p=((we o p:Nat):Int):=by have hp:∀ d∈o,0 < d.members.length:=fun d hd=>(ok.dims d hd).len.1;have hs:=ok.sizeN.2;have:=ziw o p 0 hp h (by omega);simpa[numW] using this
end
end Ab
