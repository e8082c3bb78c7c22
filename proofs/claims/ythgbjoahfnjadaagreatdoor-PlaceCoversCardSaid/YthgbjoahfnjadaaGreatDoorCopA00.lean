set_option maxRecDepth 1000000
set_option maxHeartbeats 16000000
set_option linter.all false
namespace Go.Proofs.YthgbjoahfnjadaaGreatDoor.Cop
section
abbrev LP:=List (Int×Int)
def oM{p:Prop}(h:p:=by omega):p:=h
def sM{p:Prop}(h:p:=by simp):p:=h
def dM{p:Prop}(h:p:=by decide):p:=h
def dO{p:Prop}(h:p:=by(dsimp only;omega)):p:=h
def dv(b:Int):List Int->Int
 | []=>0
 | d::ds=>d+b*dv b ds
@[simp] theorem UM(b:Int):dv b []=0 := rfl
@[simp] theorem Pm(b d:Int)(ds:List Int):dv b (d :: ds)=d + b * dv b ds := rfl
def kl(b:Int)(xs a:List Int):dv b (xs++a)=dv b xs+b ^ xs.length*dv b a:=by
 induction xs with
 | nil=>simp
 | cons x xs c=>simp only[List.cons_append,Pm,c,List.length_cons];grind
def Un(b:Int)(xs:List Int)(y:Int):dv b (xs++[y])=dv b xs+b ^ xs.length*y:=by rw[kl];simp
def po(b:Int)(n:Nat):dv b (List.replicate n 0)=0:=by
 induction n with
 | zero=>rfl
 | succ n a=>simp[List.replicate_succ,a]
def ke(b:Int)(ds:List Int):Prop:=∀d∈ds,0<=d/\d<b
def Wg(b:Int)(ds:List Int):Prop:=ke b ds/\ds.getLast?≠some 0
def ke.nil(b:Int):ke b []:=by intro d h;cases h
def ke.snoc{b:Int}{ds:List Int}(h:ke b ds){y:Int}(c:0<=y)(e:y<b):ke b (ds++[y]):=by
 intro d a;rcases List.mem_append.1 a with a|a
 ·exact h d a
 ·simp at a;subst a;exact⟨c,e⟩
def ke.of_append{b:Int}{xs c:List Int}(h:ke b (xs++c)):ke b xs/\ke b c:=
 ⟨fun d a=>h d (List.mem_append.2 (.inl a)),fun d a=>h d (List.mem_append.2 (.inr a))⟩
def ke.append{b:Int}{xs c:List Int}(h:ke b xs)(k:ke b c):ke b (xs++c):=by
 intro d a;rcases List.mem_append.1 a with a|a
 ·exact h d a
 ·exact k d a
def tj{b:Int}(a:0<b)(n:Nat):0<b ^ n:=Int.pow_pos a
def ik{b:Int}(j:0<b){ds:List Int}(h:ke b ds):0<=dv b ds/\dv b ds<b ^ ds.length:=by
 induction ds with
 | nil=>simp
 | cons d ds a =>
  have k:=h d sM;have a:=a (fun x c=>h x (by simp[c]));simp only[Pm,List.length_cons];have e:b*dv b ds<=b*(b ^ ds.length-1):=Int.mul_le_mul_of_nonneg_left oM oM;have f:0<=b*dv b ds:=Int.mul_nonneg oM a.1;have g:b ^ (ds.length+1)=b*b ^ ds.length:=by rw[Int.pow_succ,Int.mul_comm]
  have i:b*(b ^ ds.length-1)=b*b ^ ds.length-b:=by grind
  omega
def Ct{b:Int}(d:0<b){ds:List Int}(h:Wg b ds)(a:ds≠[]):b ^ (ds.length-1)<=dv b ds:=by
 obtain⟨c,y,rfl⟩:∃c y,ds=c++[y]:=⟨ds.dropLast,ds.getLast a,(List.dropLast_concat_getLast a).symm⟩;have j:=h.1 y sM;have f:y≠0:=by intro e;apply h.2;simp[e]
 have i:=ik d (ke.of_append h.1).1;rw[Un];have g:=tj d c.length;have:b ^ c.length*1<=b ^ c.length*y:=Int.mul_le_mul_of_nonneg_left oM oM;simp only[List.length_append,List.length_singleton,Nat.add_sub_cancel];omega
def XG{b:Int}(c:0<b){ds:List Int}(h:Wg b ds):dv b ds=0 ↔ ds=[]:=by
 constructor
 ·intro e;by_cases a:ds=[]
  ·exact a
  ·have:=Ct c h a;have:=tj c (ds.length-1);omega
 ·rintro rfl;rfl
def qo{b:Int}(c:1<=b){m n:Nat}(h:m<=n):b ^ m<=b ^ n:=by
 obtain⟨k,rfl⟩:=Nat.exists_eq_add_of_le h;induction k with
 | zero=>exact Int.le_refl _
 | succ k a =>
  have a:=a oM;have d:=tj (b:=b) oM (m+k);have e:b ^ (m+(k+1))=b*b ^ (m+k):=by rw[<-Nat.add_assoc,Int.pow_succ,Int.mul_comm]
  have:1*b ^ (m+k)<=b*b ^ (m+k):=Int.mul_le_mul_of_nonneg_right c oM;omega
def EA{b:Int}(c:1<=b){xs a:List Int}(d:ke b xs)(f:Wg b a)(h:xs.length<a.length):dv b xs<dv b a:=by have g:=(ik oM d).2;have i:=Ct oM f (by intro e;subst e;simp at h);have j:=qo c (show xs.length<=a.length-1 by omega);omega
def pL{b:Int}(j:1<=b){xs a zs:List Int}{x y:Int}(f:ke b xs)(c:xs.length=a.length)(g:ke b a)(h:x<y):dv b (xs++x::zs)<dv b (a++y::zs):=by
 rw[kl,kl,c];simp only[Pm];have d:=(ik oM f).2;have i:=(ik oM g).1;have k:=tj (b:=b) oM a.length;rw[c]at d;have:b ^ a.length*(x+1+b*dv b zs)<=b ^ a.length*(y+b*dv b zs):=Int.mul_le_mul_of_nonneg_left oM oM;have e:b ^ a.length*(x+1+b*dv b zs)=b ^ a.length*(x+b*dv b zs)+b ^ a.length:=by grind
 omega
def Wg.nil(b:Int):Wg b []:=⟨ke.nil b,by simp⟩
