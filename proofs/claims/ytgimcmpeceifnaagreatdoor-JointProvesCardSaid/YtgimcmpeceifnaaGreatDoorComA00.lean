set_option maxRecDepth 1000000
set_option maxHeartbeats 16000000
set_option linter.all false
namespace Go.Proofs.YtgimcmpeceifnaaGreatDoor.Cop
section
abbrev LP:=List (Int×Int)
def oM{p:Prop}(h:p:=by omega):p:=h
def sM{p:Prop}(h:p:=by simp):p:=h
def dM{p:Prop}(h:p:=by decide):p:=h
def dO{p:Prop}(h:p:=by(dsimp only;omega)):p:=h
def dv(b:Int):List Int->Int
 | []=>0
 | d::ds=>d+b*dv b ds
@[simp] theorem qW b:dv b []=0 := rfl
@[simp] theorem Em b d ds:dv b (d :: ds)=d + b * dv b ds := rfl
def Km b xs a:dv b (xs++a)=dv b xs+b ^ xs.length*dv b a:=by
 induction xs with
 | nil=>simp
 | cons x xs c=>simp only[List.cons_append,Em,c,List.length_cons];grind
def Nn b xs y:dv b (xs++[y])=dv b xs+b ^ xs.length*y:=by rw[Km];simp
def Xo b n:dv b (List.replicate n 0)=0:=by
 induction n with
 | zero=>rfl
 | succ n a=>simp[List.replicate_succ,a]
def Wd(b:Int)(ds:List Int):Prop:=∀d∈ds,0<=d/\d<b
def Cg(b:Int)(ds:List Int):Prop:=Wd b ds/\ds.getLast?≠some 0
def Wd.nil b:Wd b []:=by intro d h;cases h
def Wd.snoc{b ds}(h:Wd b ds){y}(c:0<=y)(e:y<b):Wd b (ds++[y]):=by
 intro d a;rcases List.mem_append.1 a with a|a
 ·exact h d a
 ·simp at a;subst a;exact⟨c,e⟩
def Wd.of_append{b xs c}(h:Wd b (xs++c)):Wd b xs/\Wd b c:=
 ⟨fun d a=>h d (List.mem_append.2 (.inl a)),fun d a=>h d (List.mem_append.2 (.inr a))⟩
def Wd.append{b xs c}(h:Wd b xs)(k:Wd b c):Wd b (xs++c):=by
 intro d a;rcases List.mem_append.1 a with a|a
 ·exact h d a
 ·exact k d a
def Tj{b:Int}(a:0<b) n:0<b ^ n:=Int.pow_pos a
def Yi{b}(j:0<b){ds}(h:Wd b ds):0<=dv b ds/\dv b ds<b ^ ds.length:=by
 induction ds with
 | nil=>simp
 | cons d ds a =>
  have k:=h d sM;have a:=a (fun x c=>h x (by simp[c]));simp only[Em,List.length_cons];have e:b*dv b ds<=b*(b ^ ds.length-1):=Int.mul_le_mul_of_nonneg_left oM oM;have f:0<=b*dv b ds:=Int.mul_nonneg oM a.1;have g:b ^ (ds.length+1)=b*b ^ ds.length:=by rw[Int.pow_succ,Int.mul_comm]
  have i:b*(b ^ ds.length-1)=b*b ^ ds.length-b:=by grind
  omega
def qv{b}(d:0<b){ds}(h:Cg b ds)(a:ds≠[]):b ^ (ds.length-1)<=dv b ds:=by
 obtain⟨c,y,rfl⟩:∃c y,ds=c++[y]:=⟨ds.dropLast,ds.getLast a,(List.dropLast_concat_getLast a).symm⟩;have j:=h.1 y sM;have f:y≠0:=by intro e;apply h.2;simp[e]
 have i:=Yi d (Wd.of_append h.1).1;rw[Nn];have g:=Tj d c.length;have:b ^ c.length*1<=b ^ c.length*y:=Int.mul_le_mul_of_nonneg_left oM oM;simp only[List.length_append,List.length_singleton,Nat.add_sub_cancel];omega
def tE{b}(c:0<b){ds}(h:Cg b ds):dv b ds=0 ↔ ds=[]:=by
 constructor
 ·intro e;by_cases a:ds=[]
  ·exact a
  ·have:=qv c h a;have:=Tj c (ds.length-1);omega
 ·rintro rfl;rfl
def On{b:Int}(c:1<=b){m n}(h:m<=n):b ^ m<=b ^ n:=by
 obtain⟨k,rfl⟩:=Nat.exists_eq_add_of_le h;induction k with
 | zero=>exact Int.le_refl _
 | succ k a =>
  have a:=a oM;have d:=Tj (b:=b) oM (m+k);have e:b ^ (m+(k+1))=b*b ^ (m+k):=by rw[<-Nat.add_assoc,Int.pow_succ,Int.mul_comm]
  have:1*b ^ (m+k)<=b*b ^ (m+k):=Int.mul_le_mul_of_nonneg_right c oM;omega
def It{b}(c:1<=b){xs a}(d:Wd b xs)(f:Cg b a)(h:xs.length<a.length):dv b xs<dv b a:=by have g:=(Yi oM d).2;have i:=qv oM f (by intro e;subst e;simp at h);have j:=On c (show xs.length<=a.length-1 by omega);omega
def Sz{b}(j:1<=b){xs a zs x y}(f:Wd b xs)(c:xs.length=a.length)(g:Wd b a)(h:x<y):dv b (xs++x::zs)<dv b (a++y::zs):=by
 rw[Km,Km,c];simp only[Em];have d:=(Yi oM f).2;have i:=(Yi oM g).1;have k:=Tj (b:=b) oM a.length;rw[c]at d;have:b ^ a.length*(x+1+b*dv b zs)<=b ^ a.length*(y+b*dv b zs):=Int.mul_le_mul_of_nonneg_left oM oM;have e:b ^ a.length*(x+1+b*dv b zs)=b ^ a.length*(x+b*dv b zs)+b ^ a.length:=by grind
 omega
def Cg.nil b:Cg b []:=⟨Wd.nil b,by simp⟩
