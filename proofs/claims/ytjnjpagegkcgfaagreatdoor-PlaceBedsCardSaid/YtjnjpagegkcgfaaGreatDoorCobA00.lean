set_option maxRecDepth 1000000
set_option maxHeartbeats 16000000
set_option linter.all false
namespace Go.Proofs.YtjnjpagegkcgfaaGreatDoor.Cop
section
abbrev LP:=List (Int×Int)
def oM{p:Prop}(h:p:=by omega):p:=h
def sM{p:Prop}(h:p:=by simp):p:=h
def dM{p:Prop}(h:p:=by decide):p:=h
def dO{p:Prop}(h:p:=by(dsimp only;omega)):p:=h
def dv(b:Int):List Int->Int
 | []=>0
 | d::ds=>d+b*dv b ds
@[simp] theorem rS(b:Int):dv b []=0 := rfl
@[simp] theorem Il(b d:Int)(ds:List Int):dv b (d :: ds)=d + b * dv b ds := rfl
def Ml(b:Int)(xs a:List Int):dv b (xs++a)=dv b xs+b ^ xs.length*dv b a:=by
 induction xs with
 | nil=>simp
 | cons x xs c=>simp only[List.cons_append,Il,c,List.length_cons];grind
def Fm(b:Int)(xs:List Int)(y:Int):dv b (xs++[y])=dv b xs+b ^ xs.length*y:=by rw[Ml];simp
def Un(b:Int)(n:Nat):dv b (List.replicate n 0)=0:=by
 induction n with
 | zero=>rfl
 | succ n a=>simp[List.replicate_succ,a]
def Zd(b:Int)(ds:List Int):Prop:=∀d∈ds,0<=d/\d<b
def yg(b:Int)(ds:List Int):Prop:=Zd b ds/\ds.getLast?≠some 0
def Zd.nil(b:Int):Zd b []:=by intro d h;cases h
def Zd.snoc{b:Int}{ds:List Int}(h:Zd b ds){y:Int}(c:0<=y)(e:y<b):Zd b (ds++[y]):=by
 intro d a;rcases List.mem_append.1 a with a|a
 ·exact h d a
 ·simp at a;subst a;exact⟨c,e⟩
def Zd.of_append{b:Int}{xs c:List Int}(h:Zd b (xs++c)):Zd b xs/\Zd b c:=
 ⟨fun d a=>h d (List.mem_append.2 (.inl a)),fun d a=>h d (List.mem_append.2 (.inr a))⟩
def Ri{b:Int}(a:0<b)(n:Nat):0<b ^ n:=Int.pow_pos a
def Gi{b:Int}(j:0<b){ds:List Int}(h:Zd b ds):0<=dv b ds/\dv b ds<b ^ ds.length:=by
 induction ds with
 | nil=>simp
 | cons d ds a =>
  have k:=h d sM;have a:=a (fun x c=>h x (by simp[c]));simp only[Il,List.length_cons];have e:b*dv b ds<=b*(b ^ ds.length-1):=Int.mul_le_mul_of_nonneg_left oM oM;have f:0<=b*dv b ds:=Int.mul_nonneg oM a.1;have g:b ^ (ds.length+1)=b*b ^ ds.length:=by rw[Int.pow_succ,Int.mul_comm]
  have i:b*(b ^ ds.length-1)=b*b ^ ds.length-b:=by grind
  omega
def yt{b:Int}(d:0<b){ds:List Int}(h:yg b ds)(a:ds≠[]):b ^ (ds.length-1)<=dv b ds:=by
 obtain⟨c,y,rfl⟩:∃c y,ds=c++[y]:=⟨ds.dropLast,ds.getLast a,(List.dropLast_concat_getLast a).symm⟩;have j:=h.1 y sM;have f:y≠0:=by intro e;apply h.2;simp[e]
 have i:=Gi d (Zd.of_append h.1).1;rw[Fm];have g:=Ri d c.length;have:b ^ c.length*1<=b ^ c.length*y:=Int.mul_le_mul_of_nonneg_left oM oM;simp only[List.length_append,List.length_singleton,Nat.add_sub_cancel];omega
def nC{b:Int}(c:0<b){ds:List Int}(h:yg b ds):dv b ds=0 ↔ ds=[]:=by
 constructor
 ·intro e;by_cases a:ds=[]
  ·exact a
  ·have:=yt c h a;have:=Ri c (ds.length-1);omega
 ·rintro rfl;rfl
def Im{b:Int}(c:1<=b){m n:Nat}(h:m<=n):b ^ m<=b ^ n:=by
 obtain⟨k,rfl⟩:=Nat.exists_eq_add_of_le h;induction k with
 | zero=>exact Int.le_refl _
 | succ k a =>
  have a:=a oM;have d:=Ri (b:=b) oM (m+k);have e:b ^ (m+(k+1))=b*b ^ (m+k):=by rw[<-Nat.add_assoc,Int.pow_succ,Int.mul_comm]
  have:1*b ^ (m+k)<=b*b ^ (m+k):=Int.mul_le_mul_of_nonneg_right c oM;omega
def Gr{b:Int}(c:1<=b){xs a:List Int}(d:Zd b xs)(hy:yg b a)(h:xs.length<a.length):dv b xs<dv b a:=by have f:=(Gi oM d).2;have g:=yt oM hy (by intro e;subst e;simp at h);have i:=Im c (show xs.length<=a.length-1 by omega);omega
def Gx{b:Int}(i:1<=b){xs a zs:List Int}{x y:Int}(f:Zd b xs)(c:xs.length=a.length)(hy:Zd b a)(h:x<y):dv b (xs++x::zs)<dv b (a++y::zs):=by
 rw[Ml,Ml,c];simp only[Il];have d:=(Gi oM f).2;have g:=(Gi oM hy).1;have j:=Ri (b:=b) oM a.length;rw[c]at d;have:b ^ a.length*(x+1+b*dv b zs)<=b ^ a.length*(y+b*dv b zs):=Int.mul_le_mul_of_nonneg_left oM oM;have e:b ^ a.length*(x+1+b*dv b zs)=b ^ a.length*(x+b*dv b zs)+b ^ a.length:=by grind
 omega
def yg.nil(b:Int):yg b []:=⟨Zd.nil b,by simp⟩
