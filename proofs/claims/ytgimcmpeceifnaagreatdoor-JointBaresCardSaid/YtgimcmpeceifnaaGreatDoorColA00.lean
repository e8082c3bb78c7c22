set_option maxRecDepth 1000000
set_option maxHeartbeats 16000000
set_option linter.all false
namespace Go.Proofs.YtgimcmpeceifnaaGreatDoor.Cop
section
abbrev LP:=List (Int×Int)
def oM{p:Prop}(h:p:=by omega):p:=h
def sM{p:Prop}(h:p:=by simp):p:=h
def dM{p:Prop}(h:p:=by decide):p:=h
def dO{p:Prop}(h:p:=by(dsimp only;omega)):p:=h
def dv(b:Int):List Int->Int
 | []=>0
 | d::ds=>d+b*dv b ds
@[simp] theorem jW(b:Int):dv b []=0 := rfl
@[simp] theorem om(b d:Int)(a:List Int):dv b (d :: a)=d + b * dv b a := rfl
def Dm(b:Int)(xs a:List Int):dv b (xs++a)=dv b xs+b ^ xs.length*dv b a:=by
 induction xs with
 | nil=>simp
 | cons x xs c=>simp only[List.cons_append,om,c,List.length_cons];grind
def Gn(b:Int)(xs:List Int)(y:Int):dv b (xs++[y])=dv b xs+b ^ xs.length*y:=by rw[Dm];simp
def Qo(b:Int)(n:Nat):dv b (List.replicate n 0)=0:=by
 induction n with
 | zero=>rfl
 | succ n a=>simp[List.replicate_succ,a]
def Ud(b:Int)(a:List Int):Prop:=∀d∈a,0<=d/\d<b
def pg(b:Int)(a:List Int):Prop:=Ud b a/\a.getLast?≠some 0
def Ud.nil(b:Int):Ud b []:=by intro d h;cases h
def Ud.snoc{b:Int}{c:List Int}(h:Ud b c){y:Int}(e:0<=y)(f:y<b):Ud b (c++[y]):=by
 intro d a;rcases List.mem_append.1 a with a|a
 ·exact h d a
 ·simp at a;subst a;exact⟨e,f⟩
def Ud.of_append{b:Int}{xs c:List Int}(h:Ud b (xs++c)):Ud b xs/\Ud b c:=
 ⟨fun d a=>h d (List.mem_append.2 (.inl a)),fun d a=>h d (List.mem_append.2 (.inr a))⟩
def Ud.append{b:Int}{xs c:List Int}(h:Ud b xs)(k:Ud b c):Ud b (xs++c):=by
 intro d a;rcases List.mem_append.1 a with a|a
 ·exact h d a
 ·exact k d a
def Tj{b:Int}(a:0<b)(n:Nat):0<b ^ n:=Int.pow_pos a
def Wi{b:Int}(k:0<b){a:List Int}(h:Ud b a):0<=dv b a/\dv b a<b ^ a.length:=by
 induction a with
 | nil=>simp
 | cons d a c =>
  have l:=h d sM;have c:=c (fun x e=>h x (by simp[e]));simp only[om,List.length_cons];have f:b*dv b a<=b*(b ^ a.length-1):=Int.mul_le_mul_of_nonneg_left oM oM;have g:0<=b*dv b a:=Int.mul_nonneg oM c.1;have i:b ^ (a.length+1)=b*b ^ a.length:=by rw[Int.pow_succ,Int.mul_comm]
  have j:b*(b ^ a.length-1)=b*b ^ a.length-b:=by grind
  omega
def Qu{b:Int}(f:0<b){a:List Int}(h:pg b a)(c:a≠[]):b ^ (a.length-1)<=dv b a:=by
 obtain⟨d,y,rfl⟩:∃d y,a=d++[y]:=⟨a.dropLast,a.getLast c,(List.dropLast_concat_getLast c).symm⟩;have k:=h.1 y sM;have g:y≠0:=by intro e;apply h.2;simp[e]
 have j:=Wi f (Ud.of_append h.1).1;rw[Gn];have i:=Tj f d.length;have:b ^ d.length*1<=b ^ d.length*y:=Int.mul_le_mul_of_nonneg_left oM oM;simp only[List.length_append,List.length_singleton,Nat.add_sub_cancel];omega
def QD{b:Int}(d:0<b){a:List Int}(h:pg b a):dv b a=0 ↔ a=[]:=by
 constructor
 ·intro e;by_cases c:a=[]
  ·exact c
  ·have:=Qu d h c;have:=Tj d (a.length-1);omega
 ·rintro rfl;rfl
def Jn{b:Int}(c:1<=b){m n:Nat}(h:m<=n):b ^ m<=b ^ n:=by
 obtain⟨k,rfl⟩:=Nat.exists_eq_add_of_le h;induction k with
 | zero=>exact Int.le_refl _
 | succ k a =>
  have a:=a oM;have d:=Tj (b:=b) oM (m+k);have e:b ^ (m+(k+1))=b*b ^ (m+k):=by rw[<-Nat.add_assoc,Int.pow_succ,Int.mul_comm]
  have:1*b ^ (m+k)<=b*b ^ (m+k):=Int.mul_le_mul_of_nonneg_right c oM;omega
def mt{b:Int}(c:1<=b){xs a:List Int}(d:Ud b xs)(f:pg b a)(h:xs.length<a.length):dv b xs<dv b a:=by have g:=(Wi oM d).2;have i:=Qu oM f (by intro e;subst e;simp at h);have j:=Jn c (show xs.length<=a.length-1 by omega);omega
def Iz{b:Int}(j:1<=b){xs a zs:List Int}{x y:Int}(f:Ud b xs)(c:xs.length=a.length)(g:Ud b a)(h:x<y):dv b (xs++x::zs)<dv b (a++y::zs):=by
 rw[Dm,Dm,c];simp only[om];have d:=(Wi oM f).2;have i:=(Wi oM g).1;have k:=Tj (b:=b) oM a.length;rw[c]at d;have:b ^ a.length*(x+1+b*dv b zs)<=b ^ a.length*(y+b*dv b zs):=Int.mul_le_mul_of_nonneg_left oM oM;have e:b ^ a.length*(x+1+b*dv b zs)=b ^ a.length*(x+b*dv b zs)+b ^ a.length:=by grind
 omega
def pg.nil(b:Int):pg b []:=⟨Ud.nil b,by simp⟩
