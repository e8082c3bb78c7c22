import Derived.Test.YtjnjpagegkcgfaaGreatDoorCoqA15
import Derived.Test.YtjnjpagegkcgfaaGreatDoorCoqA14
set_option maxRecDepth 1000000
set_option maxHeartbeats 16000000
set_option linter.all false
open Go.IntKind renaming i64->O
open Go.Value renaming int->Y,slice->Z,bool->J,agg->C
open Go renaming World->X,Value->I
open Option renaming none->V,some->N
namespace Go.Proofs.YtjnjpagegkcgfaaGreatDoor.Cop
section
open Go.RowKit Go.Shelf Go.Sort
attribute [local go_sem] Oper.semAt_some
def JO(w:X)(nm:ByteArray)(v:I)(l:LP)(d de gx gz:Int)(h:ub w v l)(ar:nm.size<=1000000):Calls Tryz.prog 89 #[C #[.string nm,v,Y O d,Y O de,Y O gx,Y O gz]] w fun e w'=>e=.returned (J (Dd (Ge nm) l d de gx gz))/\Aa w w':=by
 obtain⟨a,c,rfl⟩:=h.form;obtain⟨n,hn⟩:=gX l.length;have HN:=ka (fun W=>LO W nm ar);have HP:=ka (fun W (hW:Aa w W)=>YP W _ l (h.f hW));have HD:=ka (fun W=>Yt W d 1 2000);have HE:=ka (fun W=>Yt W de 1 10000);have HX:=ka (fun W=>Yt W gx (-100) 100);have HZ:=ka (fun W=>Yt W gz (-100) 100);obtain⟨cb,ap⟩:=gX (Dd (Ge nm) l d de gx gz);rw[ap];unfold Dd Ld at ap;rw[<-Iv,<-mH]at ap;obtain⟨nb,e1⟩:=gX (nk nm);obtain⟨pb,e2⟩:=gX (uh l);obtain⟨bd,e3⟩:=gX (Ra d 1 2000);obtain⟨be,e4⟩:=gX (Ra de 1 10000);obtain⟨bx,e5⟩:=gX (Ra gx (-100) 100);obtain⟨bz,e6⟩:=gX (Ra gz (-100) 100);obtain⟨zx,e7⟩:=gX ((gx==0));obtain⟨zz,e8⟩:=gX ((gz==0));have e9:(gx != 0)=!zx:=by rw[<-e7];rfl
 have aq:(gz != 0)=!zz:=by rw[<-e8];rfl
 rw[e1,e2,e3,e4,e5,e6,e7,e8]at ap;rw[e1]at HN;rw[hn,e2]at HP;rw[e3]at HD;rw[e4]at HE;rw[e5]at HX;rw[e6]at HZ;rw[hn];have ac:=ka ap;clear e1 e2 e3 e4 e5 e6 e7 e8 ap h hn ar;cases nb with
 |false=>
  have e:=ac.o;simp only[Bool.false_and]at e;subst e;go_in;go_wp2_with(first|(go_at_call 157;refine cM (HN.o _) ?_;rintro e q ⟨rfl,b⟩;obtain⟨⟨ad,aj⟩,r,s⟩:=Yb w b;(have X1:Aa w q:=eA))|(go_at_call 158;refine cM (HP.o q X1) ?_;rintro e w2 ⟨rfl,f⟩;obtain⟨⟨ae,ak⟩,t,u⟩:=Yb w f)|(go_at_call 159;(with_reducible refine(HD.o w2).mono ?_);rintro e w3 ⟨rfl,i⟩;obtain⟨⟨af,al⟩,x,y⟩:=Yb w i)|(go_at_call 159;(with_reducible refine(HE.o w3).mono ?_);rintro e w4 ⟨rfl,j⟩;obtain⟨⟨ag,am⟩,z,K⟩:=Yb w j)|(go_at_call 159;(with_reducible refine(HX.o w4).mono ?_);rintro e w5 ⟨rfl,k⟩;obtain⟨⟨ah,an⟩,P,R⟩:=Yb w k)|(go_at_call 159;(with_reducible refine(HZ.o w5).mono ?_);rintro e w6 ⟨rfl,m⟩;obtain⟨⟨ai,ao⟩,aa,ab⟩:=Yb w m));go_ret;exact⟨rfl,eA⟩
 |true=>
 cases pb with
 |false=>
  have e:=ac.o;simp only[Bool.true_and,Bool.false_and]at e;subst e;go_in;go_wp2_with(first|(go_at_call 157;refine cM (HN.o _) ?_;rintro e q ⟨rfl,b⟩;obtain⟨⟨ad,aj⟩,r,s⟩:=Yb w b;(have X1:Aa w q:=eA))|(go_at_call 158;refine cM (HP.o q X1) ?_;rintro e w2 ⟨rfl,f⟩;obtain⟨⟨ae,ak⟩,t,u⟩:=Yb w f)|(go_at_call 159;(with_reducible refine(HD.o w2).mono ?_);rintro e w3 ⟨rfl,i⟩;obtain⟨⟨af,al⟩,x,y⟩:=Yb w i)|(go_at_call 159;(with_reducible refine(HE.o w3).mono ?_);rintro e w4 ⟨rfl,j⟩;obtain⟨⟨ag,am⟩,z,K⟩:=Yb w j)|(go_at_call 159;(with_reducible refine(HX.o w4).mono ?_);rintro e w5 ⟨rfl,k⟩;obtain⟨⟨ah,an⟩,P,R⟩:=Yb w k)|(go_at_call 159;(with_reducible refine(HZ.o w5).mono ?_);rintro e w6 ⟨rfl,m⟩;obtain⟨⟨ai,ao⟩,aa,ab⟩:=Yb w m));go_ret;exact⟨rfl,eA⟩
 |true=>
 cases bd with
 |false=>
  have e:=ac.o;simp only[Bool.true_and,Bool.false_and]at e;subst e;go_in;go_wp2_with(first|(go_at_call 157;refine cM (HN.o _) ?_;rintro e q ⟨rfl,b⟩;obtain⟨⟨ad,aj⟩,r,s⟩:=Yb w b;(have X1:Aa w q:=eA))|(go_at_call 158;refine cM (HP.o q X1) ?_;rintro e w2 ⟨rfl,f⟩;obtain⟨⟨ae,ak⟩,t,u⟩:=Yb w f)|(go_at_call 159;(with_reducible refine(HD.o w2).mono ?_);rintro e w3 ⟨rfl,i⟩;obtain⟨⟨af,al⟩,x,y⟩:=Yb w i)|(go_at_call 159;(with_reducible refine(HE.o w3).mono ?_);rintro e w4 ⟨rfl,j⟩;obtain⟨⟨ag,am⟩,z,K⟩:=Yb w j)|(go_at_call 159;(with_reducible refine(HX.o w4).mono ?_);rintro e w5 ⟨rfl,k⟩;obtain⟨⟨ah,an⟩,P,R⟩:=Yb w k)|(go_at_call 159;(with_reducible refine(HZ.o w5).mono ?_);rintro e w6 ⟨rfl,m⟩;obtain⟨⟨ai,ao⟩,aa,ab⟩:=Yb w m));go_ret;exact⟨rfl,eA⟩
 |true=>
 cases be with
 |false=>
  have e:=ac.o;simp only[Bool.true_and,Bool.false_and]at e;subst e;go_in;go_wp2_with(first|(go_at_call 157;refine cM (HN.o _) ?_;rintro e q ⟨rfl,b⟩;obtain⟨⟨ad,aj⟩,r,s⟩:=Yb w b;(have X1:Aa w q:=eA))|(go_at_call 158;refine cM (HP.o q X1) ?_;rintro e w2 ⟨rfl,f⟩;obtain⟨⟨ae,ak⟩,t,u⟩:=Yb w f)|(go_at_call 159;(with_reducible refine(HD.o w2).mono ?_);rintro e w3 ⟨rfl,i⟩;obtain⟨⟨af,al⟩,x,y⟩:=Yb w i)|(go_at_call 159;(with_reducible refine(HE.o w3).mono ?_);rintro e w4 ⟨rfl,j⟩;obtain⟨⟨ag,am⟩,z,K⟩:=Yb w j)|(go_at_call 159;(with_reducible refine(HX.o w4).mono ?_);rintro e w5 ⟨rfl,k⟩;obtain⟨⟨ah,an⟩,P,R⟩:=Yb w k)|(go_at_call 159;(with_reducible refine(HZ.o w5).mono ?_);rintro e w6 ⟨rfl,m⟩;obtain⟨⟨ai,ao⟩,aa,ab⟩:=Yb w m));go_ret;exact⟨rfl,eA⟩
 |true=>
 cases zx with
 |false=>
  simp only[Bool.not_false]at e9;cases bx with
  |false=>
   have e:=ac.o;simp at e;subst e;go_in;go_wp2_with(first|(go_at_call 157;refine cM (HN.o _) ?_;rintro e q ⟨rfl,b⟩;obtain⟨⟨ad,aj⟩,r,s⟩:=Yb w b;(have X1:Aa w q:=eA))|(go_at_call 158;refine cM (HP.o q X1) ?_;rintro e w2 ⟨rfl,f⟩;obtain⟨⟨ae,ak⟩,t,u⟩:=Yb w f)|(go_at_call 159;(with_reducible refine(HD.o w2).mono ?_);rintro e w3 ⟨rfl,i⟩;obtain⟨⟨af,al⟩,x,y⟩:=Yb w i)|(go_at_call 159;(with_reducible refine(HE.o w3).mono ?_);rintro e w4 ⟨rfl,j⟩;obtain⟨⟨ag,am⟩,z,K⟩:=Yb w j)|(go_at_call 159;(with_reducible refine(HX.o w4).mono ?_);rintro e w5 ⟨rfl,k⟩;obtain⟨⟨ah,an⟩,P,R⟩:=Yb w k)|(go_at_call 159;(with_reducible refine(HZ.o w5).mono ?_);rintro e w6 ⟨rfl,m⟩;obtain⟨⟨ai,ao⟩,aa,ab⟩:=Yb w m));go_ret;exact⟨rfl,eA⟩
  |true=>
   have e:=ac.o;simp at e;subst e;go_in;go_wp2_with(first|(go_at_call 157;refine cM (HN.o _) ?_;rintro e q ⟨rfl,b⟩;obtain⟨⟨ad,aj⟩,r,s⟩:=Yb w b;(have X1:Aa w q:=eA))|(go_at_call 158;refine cM (HP.o q X1) ?_;rintro e w2 ⟨rfl,f⟩;obtain⟨⟨ae,ak⟩,t,u⟩:=Yb w f)|(go_at_call 159;(with_reducible refine(HD.o w2).mono ?_);rintro e w3 ⟨rfl,i⟩;obtain⟨⟨af,al⟩,x,y⟩:=Yb w i)|(go_at_call 159;(with_reducible refine(HE.o w3).mono ?_);rintro e w4 ⟨rfl,j⟩;obtain⟨⟨ag,am⟩,z,K⟩:=Yb w j)|(go_at_call 159;(with_reducible refine(HX.o w4).mono ?_);rintro e w5 ⟨rfl,k⟩;obtain⟨⟨ah,an⟩,P,R⟩:=Yb w k)|(go_at_call 159;(with_reducible refine(HZ.o w5).mono ?_);rintro e w6 ⟨rfl,m⟩;obtain⟨⟨ai,ao⟩,aa,ab⟩:=Yb w m));go_ret;exact⟨rfl,eA⟩
 |true=>
  simp only[Bool.not_true]at e9;cases zz with
  |true=>
   simp only[Bool.not_true]at aq;have e:=ac.o;simp at e;subst e;go_in;go_wp2_with(first|(go_at_call 157;refine cM (HN.o _) ?_;rintro e q ⟨rfl,b⟩;obtain⟨⟨ad,aj⟩,r,s⟩:=Yb w b;(have X1:Aa w q:=eA))|(go_at_call 158;refine cM (HP.o q X1) ?_;rintro e w2 ⟨rfl,f⟩;obtain⟨⟨ae,ak⟩,t,u⟩:=Yb w f)|(go_at_call 159;(with_reducible refine(HD.o w2).mono ?_);rintro e w3 ⟨rfl,i⟩;obtain⟨⟨af,al⟩,x,y⟩:=Yb w i)|(go_at_call 159;(with_reducible refine(HE.o w3).mono ?_);rintro e w4 ⟨rfl,j⟩;obtain⟨⟨ag,am⟩,z,K⟩:=Yb w j)|(go_at_call 159;(with_reducible refine(HX.o w4).mono ?_);rintro e w5 ⟨rfl,k⟩;obtain⟨⟨ah,an⟩,P,R⟩:=Yb w k)|(go_at_call 159;(with_reducible refine(HZ.o w5).mono ?_);rintro e w6 ⟨rfl,m⟩;obtain⟨⟨ai,ao⟩,aa,ab⟩:=Yb w m));go_ret;exact⟨rfl,eA⟩
  |false=>
   simp only[Bool.not_false]at aq;cases bx with
   |false=>
    have e:=ac.o;simp at e;subst e;go_in;go_wp2_with(first|(go_at_call 157;refine cM (HN.o _) ?_;rintro e q ⟨rfl,b⟩;obtain⟨⟨ad,aj⟩,r,s⟩:=Yb w b;(have X1:Aa w q:=eA))|(go_at_call 158;refine cM (HP.o q X1) ?_;rintro e w2 ⟨rfl,f⟩;obtain⟨⟨ae,ak⟩,t,u⟩:=Yb w f)|(go_at_call 159;(with_reducible refine(HD.o w2).mono ?_);rintro e w3 ⟨rfl,i⟩;obtain⟨⟨af,al⟩,x,y⟩:=Yb w i)|(go_at_call 159;(with_reducible refine(HE.o w3).mono ?_);rintro e w4 ⟨rfl,j⟩;obtain⟨⟨ag,am⟩,z,K⟩:=Yb w j)|(go_at_call 159;(with_reducible refine(HX.o w4).mono ?_);rintro e w5 ⟨rfl,k⟩;obtain⟨⟨ah,an⟩,P,R⟩:=Yb w k)|(go_at_call 159;(with_reducible refine(HZ.o w5).mono ?_);rintro e w6 ⟨rfl,m⟩;obtain⟨⟨ai,ao⟩,aa,ab⟩:=Yb w m));go_ret;exact⟨rfl,eA⟩
   |true=>
    have e:=ac.o;simp at e;subst e;go_in;go_wp2_with(first|(go_at_call 157;refine cM (HN.o _) ?_;rintro e q ⟨rfl,b⟩;obtain⟨⟨ad,aj⟩,r,s⟩:=Yb w b;(have X1:Aa w q:=eA))|(go_at_call 158;refine cM (HP.o q X1) ?_;rintro e w2 ⟨rfl,f⟩;obtain⟨⟨ae,ak⟩,t,u⟩:=Yb w f)|(go_at_call 159;(with_reducible refine(HD.o w2).mono ?_);rintro e w3 ⟨rfl,i⟩;obtain⟨⟨af,al⟩,x,y⟩:=Yb w i)|(go_at_call 159;(with_reducible refine(HE.o w3).mono ?_);rintro e w4 ⟨rfl,j⟩;obtain⟨⟨ag,am⟩,z,K⟩:=Yb w j)|(go_at_call 159;(with_reducible refine(HX.o w4).mono ?_);rintro e w5 ⟨rfl,k⟩;obtain⟨⟨ah,an⟩,P,R⟩:=Yb w k)|(go_at_call 159;(with_reducible refine(HZ.o w5).mono ?_);rintro e w6 ⟨rfl,m⟩;obtain⟨⟨ai,ao⟩,aa,ab⟩:=Yb w m));go_ret;exact⟨rfl,eA⟩
def pE w n:Calls Tryz.prog 90 #[Y O n] w fun e d=>e=.returned (J (!Kd n))/\Aa w d:=by
 have c:(!Kd n)=(decide (-100000<=n)&&decide (n<=100000)):=by
  unfold Kd;rw[Bool.eq_iff_iff];simp
 rw[c];clear c;by_cases h:-100000<=n
 ·have b:decide (-100000<=n)=true:=by simpa using h
  go_in;go_wp2;go_ret;exact⟨by simp[b],eA⟩
 ·have b:decide (-100000<=n)=false:=by simpa using h
  go_in;go_wp2;go_ret;exact⟨by simp[b],eA⟩
def EC(w:X)(v:I)(p:Pl)(h:ub w v p.shape)(aa:p.name.size<=1000000):Calls Tryz.prog 27 #[C (nc p v)] w fun e w'=>e=.returned (J (Ca p))/\Aa w w':=by
 obtain⟨nm,l,d,de,gx,gz,wy,ax,az,sk⟩:=p;dsimp only at h aa;obtain⟨a,c,rfl⟩:=h.form;obtain⟨n,hn⟩:=gX l.length;have hV:=fun W (hW:Aa w W)=>JO W nm _ l d de gx gz (h.f hW) aa;have hX:=fun W=>pE W ax;have hZ:=fun W=>pE W az;obtain⟨cb,x⟩:=gX (Ca ⟨nm,l,d,de,gx,gz,wy,ax,az,sk⟩);rw[x];unfold Ca Ra at x;dsimp only at x;obtain⟨vb,e1⟩:=gX (Dd (Ge nm) l d de gx gz);obtain⟨bx,e2⟩:=gX ((!Kd ax));obtain⟨bz,e3⟩:=gX ((!Kd az));rw[e1,e2,e3]at x;rw[e1]at hV;rw[e2]at hX;rw[e3]at hZ;have r:=ka x;have HV:=ka hV;have HX:=ka hX;have R:=ka hZ;clear e1 e2 e3 x hV hX hZ h aa;unfold nc;dsimp only;rw[hn]at HV ⊢;clear hn;cases vb with
 |false=>
  have e:=r.o;simp at e;subst e;go_in;go_wp2_with(first|(go_at_call 89;refine cM (HV.o _ eA) ?_;rintro e j ⟨rfl,b⟩;obtain⟨⟨s,y⟩,k⟩:=oe w b;(have X1:Aa w j:=eA))|(go_at_call 90;(with_reducible refine(HX.o j).mono ?_);rintro e P ⟨rfl,f⟩;obtain⟨⟨t,z⟩,m⟩:=oe w f)|(go_at_call 90;(with_reducible refine(R.o P).mono ?_);rintro e w3 ⟨rfl,i⟩;obtain⟨⟨u,K⟩,q⟩:=oe w i));go_ret;exact⟨rfl,eA⟩
 |true=>
 by_cases w0:0<=wy
 case neg =>
  have e:cb=false:=by rw[<-r.o];simp[w0]
  subst e;go_in;go_wp2_with(first|(go_at_call 89;refine cM (HV.o _ eA) ?_;rintro e j ⟨rfl,b⟩;obtain⟨⟨s,y⟩,k⟩:=oe w b;(have X1:Aa w j:=eA))|(go_at_call 90;(with_reducible refine(HX.o j).mono ?_);rintro e P ⟨rfl,f⟩;obtain⟨⟨t,z⟩,m⟩:=oe w f)|(go_at_call 90;(with_reducible refine(R.o P).mono ?_);rintro e w3 ⟨rfl,i⟩;obtain⟨⟨u,K⟩,q⟩:=oe w i));go_ret;exact⟨rfl,eA⟩
 by_cases j:wy<=7
 case neg =>
  have e:cb=false:=by rw[<-r.o];simp[j]
  subst e;go_in;go_wp2_with(first|(go_at_call 89;refine cM (HV.o _ eA) ?_;rintro e j ⟨rfl,b⟩;obtain⟨⟨s,y⟩,k⟩:=oe w b;(have X1:Aa w j:=eA))|(go_at_call 90;(with_reducible refine(HX.o j).mono ?_);rintro e P ⟨rfl,f⟩;obtain⟨⟨t,z⟩,m⟩:=oe w f)|(go_at_call 90;(with_reducible refine(R.o P).mono ?_);rintro e w3 ⟨rfl,i⟩;obtain⟨⟨u,K⟩,q⟩:=oe w i));go_ret;exact⟨rfl,eA⟩
 cases bx with
 |false=>
  have e:cb=false:=by rw[<-r.o];simp
  subst e;go_in;go_wp2_with(first|(go_at_call 89;refine cM (HV.o _ eA) ?_;rintro e j ⟨rfl,b⟩;obtain⟨⟨s,y⟩,k⟩:=oe w b;(have X1:Aa w j:=eA))|(go_at_call 90;(with_reducible refine(HX.o j).mono ?_);rintro e P ⟨rfl,f⟩;obtain⟨⟨t,z⟩,m⟩:=oe w f)|(go_at_call 90;(with_reducible refine(R.o P).mono ?_);rintro e w3 ⟨rfl,i⟩;obtain⟨⟨u,K⟩,q⟩:=oe w i));go_ret;exact⟨rfl,eA⟩
 |true=>
 cases bz with
 |false=>
  have e:cb=false:=by rw[<-r.o];simp
  subst e;go_in;go_wp2_with(first|(go_at_call 89;refine cM (HV.o _ eA) ?_;rintro e j ⟨rfl,b⟩;obtain⟨⟨s,y⟩,k⟩:=oe w b;(have X1:Aa w j:=eA))|(go_at_call 90;(with_reducible refine(HX.o j).mono ?_);rintro e P ⟨rfl,f⟩;obtain⟨⟨t,z⟩,m⟩:=oe w f)|(go_at_call 90;(with_reducible refine(R.o P).mono ?_);rintro e w3 ⟨rfl,i⟩;obtain⟨⟨u,K⟩,q⟩:=oe w i));go_ret;exact⟨rfl,eA⟩
 |true=>
 by_cases s0:1<=sk
 case neg =>
  have e:cb=false:=by rw[<-r.o];simp[s0]
  subst e;go_in;go_wp2_with(first|(go_at_call 89;refine cM (HV.o _ eA) ?_;rintro e j ⟨rfl,b⟩;obtain⟨⟨s,y⟩,k⟩:=oe w b;(have X1:Aa w j:=eA))|(go_at_call 90;(with_reducible refine(HX.o j).mono ?_);rintro e P ⟨rfl,f⟩;obtain⟨⟨t,z⟩,m⟩:=oe w f)|(go_at_call 90;(with_reducible refine(R.o P).mono ?_);rintro e w3 ⟨rfl,i⟩;obtain⟨⟨u,K⟩,q⟩:=oe w i));go_ret;exact⟨rfl,eA⟩
 have e:cb=decide (sk<=3):=by rw[<-r.o];simp[w0,j,s0]
 subst e;go_in;go_wp2_with(first|(go_at_call 89;refine cM (HV.o _ eA) ?_;rintro e j ⟨rfl,b⟩;obtain⟨⟨s,y⟩,k⟩:=oe w b;(have X1:Aa w j:=eA))|(go_at_call 90;(with_reducible refine(HX.o j).mono ?_);rintro e P ⟨rfl,f⟩;obtain⟨⟨t,z⟩,m⟩:=oe w f)|(go_at_call 90;(with_reducible refine(R.o P).mono ?_);rintro e w3 ⟨rfl,i⟩;obtain⟨⟨u,K⟩,q⟩:=oe w i));go_ret;exact⟨rfl,eA⟩
def Xs(w:X)(b:Int×Int)(m:Nat)(t5:I)(W:X):Prop:=
 ∃i:Nat,t5=Y O i/\i<=m/\Aa w W/\W.heap[w.heap.size]?=N (.cells #[Y O (pf i b).1,Y O (pf i b).2] 27 (0,0))/\W.heap[w.heap.size+1]?=N (.cells #[Y O 0,Y O 0] 27 (0,0))
def YB{p}(h:Bd 1000000 p.1/\Bd 1000000 p.2):∀i,Bd 1000000 (pf i p).1/\Bd 1000000 (pf i p).2
 | 0=>h
 | i+1=>by
  have b:=YB h i;have e:pf (i+1) p=(-(pf i p).2,(pf i p).1):=rfl;rw[e];unfold Bd at *;dsimp only;omega
def Yz{p}(h:Bd 1000000 p.1/\Bd 1000000 p.2) way:Bd 1000000 (Bf way p).1/\Bd 1000000 (Bf way p).2:=by
 unfold Bf;refine YB ?_ _;split
 ·unfold Bd at *;dsimp only;omega
 ·exact h
def GC w p way(h0:0<=way)(h1:way<=7)(hB:Bd 1000000 p.1/\Bd 1000000 p.2):Calls Tryz.prog 94 #[C #[Y O p.1,Y O p.2],Y O way] w fun e W=>e=.returned (C #[Y O (Bf way p).1,Y O (Bf way p).2])/\Aa w W:=by
 obtain⟨x,z⟩:=p;dsimp only at hB ⊢;obtain⟨R,f⟩:=hB;obtain⟨m,hm⟩:=gX ((way%4).toNat);have ai:Int.tmod way 4=(m:Int):=by rw[Int.tmod_eq_emod_of_nonneg h0];omega
 have aj:m<=3:=oM;have Hm:=ka hm;clear hm;have q:4<=way->Calls Tryz.prog 94 #[C #[Y O x,Y O z],Y O way] w fun e W=>e=.returned (C #[Y O (Bf way (x,z)).1,Y O (Bf way (x,z)).2])/\Aa w W:=by
  intro hg;have j:Bf way (x,z)=pf m (-x,z):=by unfold Bf;rw[Hm.o];simp[hg]
  have d:=YB (p:=(-x,z)) ⟨by unfold Bd at *;dsimp only;omega,f⟩;rw[j];have n:=ka d;clear j d;unfold Bd at R f;go_in;go_wp2;go_loopw [5] (Xs w (-x,z) m) (fun t5 _=>m-(intOf t5).toNat)
  case atStart =>
   refine⟨0,rfl,by omega,eA,?_,?_⟩
   ·first|exact si .. | exact Xj (si ..) _ _
   ·exact Bc _ _ _ sM
  case round =>
   obtain⟨i,rfl,hi,hx,b,c⟩:=hrel;obtain⟨⟨y,K⟩,t⟩:∃r,pf i (-x,z)=r:=⟨_,rfl⟩;have d:=n.o i;rw[t]at b d;unfold Bd at d;dsimp only at b d;have r0:=Ba b (i:=0) (u:=Y O y) rfl;have r1:=Ba b (i:=1) (u:=Y O K) rfl;have ad:=Ya b 0;have ae:=Ya b 1;have s0:=Ba c (i:=0) (u:=Y O 0) rfl;have s1:=Ba c (i:=1) (u:=Y O 0) rfl;have ag:=Ya c 0;have ah:=Ya c 1;have sz:=Jb c;have af:=Jb b;have k:=ka b;have l:=ka c;have P:=ka t;obtain⟨ab,ac⟩:=d;clear b c t;by_cases aa:i<m
   ·have g1:(i:Int)<(m:Int):=oM;go_wp2;go_roundw
    case rel =>
     (have j:pf (i+1) (-x,z)=(-K,y):=by rw[pf,P.o]);refine⟨i+1,by go_num,by omega,eA,?_,?_⟩
     ·rw[j];exact Xj k.o _ _
     ·exact rn l.o oM _ _
    case measure=>simp[intOf];omega
   ·obtain rfl:i=m:=oM;have g1:¬(i:Int)<(i:Int):=oM;go_wp2;exact bR (v:=C #[Y O y,Y O K]) (by simp[results,Tryz.results94,go_sem,s0,s1,sz]) rfl ⟨Oo (by rw[P.o]),eA⟩
 have s:¬4<=way->Calls Tryz.prog 94 #[C #[Y O x,Y O z],Y O way] w fun e W=>e=.returned (C #[Y O (Bf way (x,z)).1,Y O (Bf way (x,z)).2])/\Aa w W:=by
  intro hg;have j:Bf way (x,z)=pf m (x,z):=by unfold Bf;rw[Hm.o];simp[hg]
  have d:=YB (p:=(x,z)) ⟨by unfold Bd at *;dsimp only;omega,f⟩;rw[j];have n:=ka d;clear j d;unfold Bd at R f;go_in;go_wp2;go_loopw [5] (Xs w (x,z) m) (fun t5 _=>m-(intOf t5).toNat)
  case atStart =>
   refine⟨0,rfl,by omega,eA,?_,?_⟩
   ·first|exact si .. | exact Xj (si ..) _ _
   ·exact Bc _ _ _ sM
  case round =>
   obtain⟨i,rfl,hi,hx,b,c⟩:=hrel;obtain⟨⟨y,K⟩,t⟩:∃r,pf i (x,z)=r:=⟨_,rfl⟩;have d:=n.o i;rw[t]at b d;unfold Bd at d;dsimp only at b d;have r0:=Ba b (i:=0) (u:=Y O y) rfl;have r1:=Ba b (i:=1) (u:=Y O K) rfl;have ad:=Ya b 0;have ae:=Ya b 1;have s0:=Ba c (i:=0) (u:=Y O 0) rfl;have s1:=Ba c (i:=1) (u:=Y O 0) rfl;have ag:=Ya c 0;have ah:=Ya c 1;have sz:=Jb c;have af:=Jb b;have k:=ka b;have l:=ka c;have P:=ka t;obtain⟨ab,ac⟩:=d;clear b c t;by_cases aa:i<m
   ·have g1:(i:Int)<(m:Int):=oM;go_wp2;go_roundw
    case rel =>
     (have j:pf (i+1) (x,z)=(-K,y):=by rw[pf,P.o]);refine⟨i+1,by go_num,by omega,eA,?_,?_⟩
     ·rw[j];exact Xj k.o _ _
     ·exact rn l.o oM _ _
    case measure=>simp[intOf];omega
   ·obtain rfl:i=m:=oM;have g1:¬(i:Int)<(i:Int):=oM;go_wp2;exact bR (v:=C #[Y O y,Y O K]) (by simp[results,Tryz.results94,go_sem,s0,s1,sz]) rfl ⟨Oo (by rw[P.o]),eA⟩
 by_cases hg:4<=way
 ·exact q hg
 ·exact s hg
def yE:(Tryz.prog.info? 27).map (fun i=>(i.zero,i.size,i.bytes))=N (N (C #[Y O 0,Y O 0]),2,16):=kM
def Ka.pr{w:X}{base:Nat}{v:I}{b:LP}(h:Ka 27 2 w base v (b.map pc)):ub w v b:=
 ⟨_,Ka.sl h sM (fun i c x hc d=>by
  rw[lP,d]at hc;cases hc;rfl)⟩
def Ci(w:X)(b:LP)(e:Ending)(w':X):Prop:=∃v,e=.returned v/\Ka 27 2 w' w.heap.size v (b.map pc)/\Aa w w'
def Io{α:Type}(f:Nat->α) i:(List.range (i+1)).map f=(List.range i).map f++[f i]:=by rw[List.range_succ,List.map_append];rfl
def Wq(W:X) x z:∀ j  u,[pc (x,z)].flatten[j]?=N u->(W.alloc (Obj.cells #[Value.int O (x),Value.int O (z)] 27)).cell? ((⟨W.heap.size,0,V⟩:Addr).add j)=N u:=AP W x z _
def VQ(c:X)(g4:Nat)(m:Int×Int)(f:Nat->Int×Int)(n:Nat)(t3 b:I)(W:X):Prop:=
 ∃i:Nat,b=Y O i/\i<=n/\Ka 27 2 W (g4+1) t3 (((List.range i).map f).map pc)/\Aa c W/\W.heap[g4]?=N (Obj.cells #[Value.int O (m.1),Value.int O (m.2)] 27 (0,0))
def XP(w:X)(v:I)(l:LP)(h:ub w v l)(hB:∀q∈l,Bd 1000000 q.1/\Bd 1000000 q.2)(ab:l≠[])(hl:l.length<=1000000):Calls Tryz.prog 95 #[v] w (Ci w (Wg l)):=by
 obtain⟨a,c,rfl⟩:=h.form;obtain⟨n,hn⟩:=gX l.length;have an:0<n:=by rw[<-hn];exact List.length_pos_iff.2 ab
 have f:=fun W (hW:Aa w W)=>FC W _ l (h.f hW) ab;have s:=fun W (hW:Aa w W)=>AE W _ l (h.f hW);have al:Zc l n<n:=by
  rw[<-hn];have e:=KP l (n-1) oM;rw[show n-1+1=n by omega]at e;rw[hn];exact e.1
 have y:Bd 1000000 (Va l).1/\Bd 1000000 (Va l).2:=by
  rw[<-Zv ab];have:∀i,i<=l.length->Bd 1000000 (Hi l i).1/\Bd 1000000 (Hi l i).2:=by
   intro i;induction i with
   | zero=>intro _;exact hB _ (Gi oM)
   | succ i ih =>
    intro hi;have h1:=ih oM;have h2:=hB _ (Gi (l:=l) (i:=i) oM);have e:Hi l (i+1)=(min (Hi l i).1 (Qa l i).1,min (Hi l i).2 (Qa l i).2):=rfl;rw[e];unfold Bd at *;dsimp only;omega
  exact this _ (nE _)
 have P:Wg l=(List.range n).map fun i=>((Qa l ((Zc l n+i)%n)).1-(Va l).1,(Qa l ((Zc l n+i)%n)).2-(Va l).2):=by unfold Wg;rw[hn]
 rw[P];rw[hn]at f s hl ⊢;obtain⟨⟨R,mz⟩,hm⟩:∃m,Va l=m:=⟨_,rfl⟩;obtain⟨f0,ae⟩:=gX (Zc l n);rw[hm]at f y ⊢;rw[ae]at s al ⊢;dsimp only at f y ⊢;obtain⟨F,hF⟩:∃F:Nat->Int×Int,(fun i=>((Qa l ((f0+i)%n)).1-R,(Qa l ((f0+i)%n)).2-mz))=F:=⟨_,rfl⟩;rw[hF];have HF:=ka hF;have ak:=ka f;have aj:=ka s;have Hn:=ka hn;have H:=ka h;have HB:=ka hB;unfold Bd at y;obtain⟨ay,az⟩:=y;clear f s hn h hB P hm ae hF;go_in;go_wp2_with(first|(go_at_call 164;refine cM (ak.o _ (eR _)) ?_;rintro e w1 ⟨rfl,ah⟩)|(go_at_call 165;refine cM (aj.o _ ah) ?_;rintro e w2 ⟨rfl,ao⟩));have X2:Aa w w2:=ah.trans ao;go_loopw [3,6] (VQ w2 w2.heap.size (R,mz) F n) (fun _ t6 _=>n-(intOf t6).toNat)
 case atStart=>exact⟨0,rfl,by omega,Ka.nil _ _ _ _,(eR _).alloc _,aN _ _⟩
 case round =>
  obtain⟨g4,am⟩:=gX w2.heap.size;rw[am]at hrel ⊢;obtain⟨i,rfl,hi,j,hx,hb⟩:=hrel;have p0:=Ba hb (i:=0) (u:=Y O R) rfl;have p1:=Ba hb (i:=1) (u:=Y O mz) rfl;have pz:=Jb hb;have Hb:=ka hb;have XW:Aa w wr:=X2.trans hx;obtain⟨va,vn,vc,rfl⟩:=j.i;have d:=ka j;have aB:=X2.size;clear hb j;by_cases ax:i<n
  ·obtain⟨k,hk⟩:=gX ((f0+i)%n);have af:k<n:=by rw[<-hk];exact Nat.mod_lt _ an
   have aw:Int.tmod ((f0:Int)+(i:Int)) (n:Int)=(k:Int):=by rw[Int.tmod_eq_emod_of_nonneg oM,<-hk,Int.natCast_emod];rfl
   obtain⟨b,o,rfl,av,c0,c1⟩:=(H.o.f XW).pt (i:=k) (by rw[Hn.o];exact af);have bk:=HB.o _ (Gi (l:=l) (i:=k) (by rw[Hn.o];exact af));have r:F i=((Qa l k).1-R,(Qa l k).2-mz):=by rw[<-HF.o,<-hk]
   obtain⟨⟨x,z⟩,hq⟩:∃q,Qa l k=q:=⟨_,rfl⟩;rw[hq]at c0 c1 bk r;unfold Bd at bk;dsimp only at c0 c1 bk r;obtain⟨ar,au⟩:=bk;have ai:=ka r;have g0:(0:Int)<=(k:Int):=oM;have g1:(k:Int)<(n:Int):=oM;have g2:(i:Int)<(n:Int):=oM;have aA:¬(n:Int)=0:=oM;have aq:¬n=0:=oM;clear hk hq r;go_wp2_with(at_builtin;refine Ah (T:=27) (t:=22) (z:=C #[Y O 0,Y O 0]) (k:=2) (bytes:=16) (base:=g4+1) (v:=Z va vn vc) (m:=1) (c:=1) (ad:=⟨wr.heap.size+1,0,V⟩) yE rfl dM dM Tryz.underlying22 rfl _ _ rfl rfl (d.o.ext (((eR wr).alloc _).alloc _)) rfl [pc (x-R,z-mz)] rfl (by simp[pc]) (by simpa using Wq (wr.alloc (Obj.cells #[Value.int O (x),Value.int O (z)] 27)) (x-R) (z-mz)) (sE (x-R) (z-mz)) (by rw[lL,lL,List.length_range];omega) (by simp only[wZ];omega) ?_;intro v' w5 ac aa ap);go_roundw
   case rel =>
    have ag:=d.o.lt;have K:Below (g4+1) wr w5:=((Below.refl _ wr).alloc oM (Obj.cells #[Value.int O (x),Value.int O (z)] 27) |>.alloc (by simp;omega) (Obj.cells #[Value.int O (x-R),Value.int O (z-mz)] 27)).trans (Bh aa (by simp;omega) (fun k hk=>(ag k hk).1));refine⟨i+1,by go_num,by omega,?_,hx.y K oM,?_⟩
    ·rw[Io,List.map_append,ai.o];exact ac
    ·rw[K.block _ oM];exact Hb.o
   case measure=>simp[intOf];omega
  ·obtain rfl:i=n:=oM;have g2:¬(i:Int)<(i:Int):=oM;go_wp2;go_ret;exact⟨_,rfl,d.o.mono oM,XW⟩
def Ky(w:X)(b c:Obj)(f:Nat->Int×Int)(n:Nat)(t5 d:I)(W:X):Prop:=
 ∃i:Nat,d=Y O i/\i<=n/\Ka 27 2 W (w.heap.size+1+1) t5 (((List.range i).map f).map pc)/\Aa w W/\W.heap[w.heap.size]?=N b/\W.heap[w.heap.size+1]?=N c
def Ps(w:X)(f:ByteArray)(d b:Int)(g:Int×Int)(c:LP)(e:Ending)(w':X):Prop:=
 ∃v',e=.returned (C #[.string f,v',Y O d,Y O b,Y O g.1,Y O g.2])/\Ka 27 2 w' w.heap.size v' (c.map pc)/\Aa w w'
def rO(w:X)(nm:ByteArray)(v:I)(l:LP)(d de gx gz way:Int)(h:ub w v l)(hB:∀q∈l,Bd 1000000 q.1/\Bd 1000000 q.2)(aC:l≠[])(hl:l.length<=1000000)(h0:0<=way)(h1:way<=7)(ax:Bd 1000000 gx)(ay:Bd 1000000 gz):Calls Tryz.prog 33 #[C #[.string nm,v,Y O d,Y O de,Y O gx,Y O gz],Y O way] w (Ps w nm d de (Bf way (gx,gz)) (Gg way l)):=by
 obtain⟨a,c,rfl⟩:=h.form;obtain⟨n,hn⟩:=gX l.length;have aS:0<n:=by rw[<-hn];exact List.length_pos_iff.2 aC
 obtain⟨F,hF⟩:∃F:Nat->Int×Int,(fun i=>Bf way (Qa l (if 4<=way then n-1-i else i)))=F:=⟨_,rfl⟩;obtain⟨P,s⟩:=gX ((List.range n).map F);have aj:Gg way l=Wg P:=by unfold Gg;rw[hn,hF,s]
 have ai:P.length=n:=by rw[<-s];simp
 have aq:∀q∈P,Bd 1000000 q.1/\Bd 1000000 q.2:=by
  rw[<-s];intro q hq;obtain⟨i,hi,rfl⟩:=List.mem_map.1 hq;rw[<-hF];have hi:=List.mem_range.1 hi;refine Yz (hB _ (Gi ?_)) _;split<;>omega
 rw[aj];obtain⟨⟨g1,g2⟩,hg⟩:∃g,Bf way (gx,gz)=g:=⟨_,rfl⟩;have al:=fun W=>GC W (gx,gz) way h0 h1 ⟨ax,ay⟩;rw[hg]at al ⊢;dsimp only at al;have aG:=ka al;have HF:=ka hF;have an:=ka s;have aL:=ka aq;have aM:=ka ai;have Hn:=ka hn;have H:=ka h;have HB:=ka hB;rw[hn]at hl ⊢;have aD:=fun W vv (hv:ub W vv P)=>XP W vv P hv aq (by intro e;rw[e]at ai;simp at ai;omega) (by rw[ai];exact hl);have aH:=ka aD;clear hg al hF s aq ai hn h hB aj aD ax ay aC;go_in;go_wp2;go_loopw [5,6] (Ky w (Obj.cells #[Value.string nm,Value.slice a n c,Value.int O d,Value.int O de,Value.int O gx,Value.int O gz] 29) (Obj.cells #[Value.string ⟨#[]⟩,Value.slice V 0 0,Value.int O 0,Value.int O 0,Value.int O 0,Value.int O 0] 29) F n) (fun _ t6 _=>n-(intOf t6).toNat)
 case atStart=>exact⟨0,rfl,by omega,Ka.nil _ _ _ _,eA,si ..,Bc _ _ _ sM⟩
 case round =>
  obtain⟨i,rfl,hi,ah,hx,hb,ao⟩:=hrel;have p0:=Ba hb (i:=0) (u:=.string nm) rfl;have p1:=Ba hb (i:=1) (u:=Z a n c) rfl;have p2:=Ba hb (i:=2) (u:=Y O d) rfl;have p3:=Ba hb (i:=3) (u:=Y O de) rfl;have p4:=Ba hb (i:=4) (u:=Y O gx) rfl;have p5:=Ba hb (i:=5) (u:=Y O gz) rfl;have pz:=Jb ao;have Hb:=ka hb;have aa:=ka ao;obtain⟨va,vn,vc,rfl⟩:=ah.i;have ae:=ka ah;clear hb ao ah;by_cases aR:i<n
  ·obtain⟨k,hk⟩:=gX ((if 4<=way then n-1-i else i));have az:k<n:=by rw[<-hk];split<;>omega
   obtain⟨b,o,rfl,aO,c0,c1⟩:=(H.o.f hx).pt (i:=k) (by rw[Hn.o];exact az);have bk:=HB.o _ (Gi (l:=l) (i:=k) (by rw[Hn.o];exact az));have ak:F i=Bf way (Qa l k):=by rw[<-HF.o,<-hk]
   obtain⟨⟨x,z⟩,hq⟩:∃q,Qa l k=q:=⟨_,rfl⟩;rw[hq]at c0 c1 bk ak;dsimp only at c0 c1 bk;have am:=fun W=>GC W (x,z) way h0 h1 bk;obtain⟨⟨y1,y2⟩,hy⟩:∃y,Bf way (x,z)=y:=⟨_,rfl⟩;rw[hy]at am ak;dsimp only at am;have au:=ka ak;have av:=ka am;have k0:(0:Int)<=(k:Int):=oM;have k1:(k:Int)<(n:Int):=oM;have k2:(i:Int)<(n:Int):=oM;clear hq ak hy am;by_cases aE:4<=way
   ·(have aQ:(n:Int)-1-(i:Int)=(k:Int):=by rw[<-hk,if_pos aE];omega);clear hk;go_wp2_with(first|(go_at_call 94;refine cM (av.o wr) ?_;rintro e w4 ⟨rfl,ac⟩)|(at_builtin;refine Ah (T:=27) (t:=22) (z:=C #[Y O 0,Y O 0]) (k:=2) (bytes:=16) (base:=w.heap.size+1+1) (v:=Z va vn vc) (m:=1) (c:=1) (ad:=⟨w4.heap.size,0,V⟩) yE rfl dM dM Tryz.underlying22 rfl _ _ rfl rfl (ae.o.ext (ac.alloc _)) rfl [pc (y1,y2)] rfl (by simp[pc]) (Wq w4 y1 y2) (sE y1 y2) (by rw[lL,lL,List.length_range];omega) (by have:=ac.size;simp only[wZ];omega) ?_;intro v' w5 ag af aA));go_roundw
    case rel =>
     have R:=ae.o.lt;have aJ:=ac.size;have r:Below (w.heap.size+1+1) wr w5:=((ac.below oM).alloc oM (Obj.cells #[Value.int O (y1),Value.int O (y2)] 27)).trans (Bh af (by simp;omega) (fun k hk=>(R k hk).1));refine⟨i+1,by go_num,by omega,?_,hx.y r oM,?_,?_⟩
     ·rw[Io,List.map_append,au.o];exact ag
     ·rw[r.block _ oM];exact Hb.o
     ·rw[r.block _ oM];exact aa.o
    case measure=>simp[intOf];omega
   ·(obtain rfl:i=k:=by rw[<-hk,if_neg aE]);clear hk;go_wp2_with(first|(go_at_call 94;refine cM (av.o wr) ?_;rintro e w4 ⟨rfl,ac⟩)|(at_builtin;refine Ah (T:=27) (t:=22) (z:=C #[Y O 0,Y O 0]) (k:=2) (bytes:=16) (base:=w.heap.size+1+1) (v:=Z va vn vc) (m:=1) (c:=1) (ad:=⟨w4.heap.size,0,V⟩) yE rfl dM dM Tryz.underlying22 rfl _ _ rfl rfl (ae.o.ext (ac.alloc _)) rfl [pc (y1,y2)] rfl (by simp[pc]) (Wq w4 y1 y2) (sE y1 y2) (by rw[lL,lL,List.length_range];omega) (by have:=ac.size;simp only[wZ];omega) ?_;intro v' w5 ag af aA));go_roundw
    case rel =>
     have R:=ae.o.lt;have aJ:=ac.size;have r:Below (w.heap.size+1+1) wr w5:=((ac.below oM).alloc oM (Obj.cells #[Value.int O (y1),Value.int O (y2)] 27)).trans (Bh af (by simp;omega) (fun k hk=>(R k hk).1));refine⟨i+1,by go_num,by omega,?_,hx.y r oM,?_,?_⟩
     ·rw[Io,List.map_append,au.o];exact ag
     ·rw[r.block _ oM];exact Hb.o
     ·rw[r.block _ oM];exact aa.o
    case measure=>simp[intOf];omega
  ·obtain rfl:i=n:=oM;have k2:¬(i:Int)<(i:Int):=oM;have aT:=Ya Hb.o 1;have aU:=Ya Hb.o 4;have aV:=Ya Hb.o 5;have s0:=Ba aa.o (i:=0) (u:=.string ⟨#[]⟩) rfl;have s1:=Ba aa.o (i:=1) (u:=Z V 0 0) rfl;have s2:=Ba aa.o (i:=2) (u:=Y O 0) rfl;have s3:=Ba aa.o (i:=3) (u:=Y O 0) rfl;have s4:=Ba aa.o (i:=4) (u:=Y O 0) rfl;have s5:=Ba aa.o (i:=5) (u:=Y O 0) rfl;have sf:=Ya aa.o;have R:ub wr (Z va vn vc) P:=by rw[<-an.o];exact ae.o.pr
   have aw:=ka R;have zz:w.heap.size<wr.heap.size:=oM;clear R;go_wp2;refine Mh (fun i=>decide (6<i)) (Ea [(⟨w.heap.size,4,V⟩,Y O gx),(⟨w.heap.size,5,V⟩,Y O gz)]) kM ?_ (fun f=>?_)
   ·exact cA
   refine lj (i:=0) ?_;refine sN 2 ?_
   iterate 3 refine Wh ?_
   refine oN ?_;refine Kc (i:=1) fun K hK=>?_;go_simp;refine cM (aH.o _ _ (aw.o.f (eR wr).drew)) ?_;rintro e w8 ⟨v8,rfl,ap,aF⟩;obtain⟨a8,n8,c8,rfl⟩:=ap.i;go_wp2;refine kO hK (fun _=>cE f aF) (fun f=>?_);clear hK K;replace f:=f rfl;refine lj (i:=6) ?_;refine Kc (i:=5) fun K hK=>?_;go_simp;refine cM (aG.o w8) ?_;rintro e w9 ⟨rfl,ar⟩;go_wp2;refine kO hK (fun _=>cE f ar) (fun f=>?_);clear hK K;replace f:=f rfl;have X9:Aa wr w9:=(eR wr).drew.trans (aF.trans ar);obtain⟨aI,aP⟩:=X9.cells;have aW:w.heap.size<w9.heap.size:=X9.lt zz;have aK:w.heap.size+1<w9.heap.size:=X9.lt pz;refine Kc (i:=7) fun K hK=>?_;go_simp;refine kO hK (fun h=>nomatch h) (fun f=>?_);clear hK K;refine Kc (i:=8) fun K hK=>?_;go_simp;refine kO hK (fun h=>nomatch h) (fun f=>?_);clear hK K;refine Kc (i:=9) fun K hK=>?_;go_simp;refine kO hK (fun h=>nomatch h) (fun f=>?_);clear hK K;refine Lb kM ?_ _;go_wp2;refine bR (v:=C #[.string nm,Z a8 n8 c8,Y O d,Y O de,Y O g1,Y O g2]) (by simp[results,Tryz.results33,go_sem,aI,pz,aK,s0,s1,s2,s3,s4,s5]) rfl ⟨_,rfl,?_,eA⟩;have k8:Ka 27 2 w9 w.heap.size (Z a8 n8 c8) ((Wg P).map pc):=(ap.ext ar).mono (by have:=hx.size;simp only[jc];omega);have aB:∀j,(Value.slice a8 n8 c8).ownBlock=N j->wr.heap.size<=j:=fun j hj=>(ap.lt j hj).1;have ab:∀q:Nat,q<wr.heap.size->(Value.slice a8 n8 c8).ownBlock≠N q:=fun q hq e=>by have:=aB q e;omega
   exact((((((((k8.setOther (p:=⟨w.heap.size,1,V⟩) (ab _ zz) _).setOther (p:=⟨w.heap.size,4,V⟩) (ab _ zz) _).setOther (p:=⟨w.heap.size,5,V⟩) (ab _ zz) _).setOther (p:=⟨w.heap.size+1,0,V⟩) (ab _ pz) _).setOther (p:=⟨w.heap.size+1,1,V⟩) (ab _ pz) _).setOther (p:=⟨w.heap.size+1,2,V⟩) (ab _ pz) _).setOther (p:=⟨w.heap.size+1,3,V⟩) (ab _ pz) _).setOther (p:=⟨w.heap.size+1,4,V⟩) (ab _ pz) _).setOther (p:=⟨w.heap.size+1,5,V⟩) (ab _ pz) _
def CG i a m c d b e f w:(Instr.field 29 (C #[.string i,Z a m c,Y O d,Y O b,Y O e,Y O f]) 1).run Tryz.prog w = .ok (Z a m c) w:=kM
structure Uy (p:Pl):Prop where
 sh:∀q∈p.shape,(0<=q.1/\q.1<=2000)/\(0<=q.2/\q.2<=2000)
 ne:p.shape≠[]
 le:p.shape.length<=12
 w0:0<=p.way
 w1:p.way<=7
 ax:Bd 100000 p.ax
 az:Bd 100000 p.az
 gx:Bd 100 p.gx
 gz:Bd 100 p.gz
def VG{p}(h:Ca p=true):Uy p:=by
 unfold Ca Dd Ld Kd Ra at h;rw[<-Iv]at h;simp only[Bool.and_eq_true,Bool.not_eq_true',Bool.or_eq_false_iff,decide_eq_true_eq,decide_eq_false_iff_not]at h;obtain⟨⟨⟨⟨⟨m,b⟩,n⟩,r⟩,⟨⟨s,h6⟩,t⟩⟩,⟨j,k⟩,⟨c,d⟩,⟨Yh,f⟩,i⟩:=h;unfold uh at b;simp only[Bool.and_eq_true,List.all_eq_true]at b;have hc:=b.2.1;unfold Mf Ra at hc;simp only[Bool.and_eq_true,decide_eq_true_eq]at hc;refine⟨fun q l=>?_,fun e=>?_,by omega,j,k,by unfold Bd;omega,by unfold Bd;omega,by unfold Bd;omega,by unfold Bd;omega⟩
 ·have:=b.1 q l;unfold Ra at this;simp only[Bool.and_eq_true,decide_eq_true_eq]at this;exact⟨by omega,by omega⟩
 ·rw[e]at hc;simp at hc
def Uy.bd{p}(h:Uy p):∀q∈p.shape,Bd 1000000 q.1/\Bd 1000000 q.2:=fun q b=>by
 have:=h.sh q b;unfold Bd;omega
def IK{way}{l:LP}(r:∀q∈l,Bd 1000000 q.1/\Bd 1000000 q.2)(k:l≠[]):∀q∈Gg way l,Bd 2000000 q.1/\Bd 2000000 q.2:=by
 intro q f;have s:0<l.length:=List.length_pos_iff.2 k;unfold Gg at f;obtain⟨b,m⟩:=gX (((List.range l.length).map fun i=>Bf way (Qa l (if 4<=way then l.length-1-i else i))));rw[m]at f;have j:b.length=l.length:=by rw[<-m];simp
 have c:∀q∈b,Bd 1000000 q.1/\Bd 1000000 q.2:=by
  rw[<-m];intro q f;obtain⟨i,d,rfl⟩:=List.mem_map.1 f;have d:=List.mem_range.1 d;refine Yz (r _ (Gi ?_)) _;split<;>omega
 have v:Bd 1000000 (Va b).1/\Bd 1000000 (Va b).2:=by
  rw[<-Zv (by intro e;rw[e]at j;simp at j;omega)];have:∀i,i<=b.length->Bd 1000000 (Hi b i).1/\Bd 1000000 (Hi b i).2:=by
   intro i;induction i with
   | zero=>intro _;exact c _ (Gi oM)
   | succ i t =>
    intro d;have u:=t oM;have n:=c _ (Gi (l:=b) (i:=i) oM);have e:Hi b (i+1)=(min (Hi b i).1 (Qa b i).1,min (Hi b i).2 (Qa b i).2):=rfl;rw[e];unfold Bd at *;dsimp only;omega
  exact this _ (nE _)
 unfold Wg at f;obtain⟨i,d,rfl⟩:=List.mem_map.1 f;have d:=List.mem_range.1 d;have n:=c _ (Gi (l:=b) (i:=(Zc b b.length+i)%b.length) (Nat.mod_lt _ oM));unfold Bd at *;dsimp only;omega
def Xy(c:X)(b:LP)(f:Int×Int->Int×Int)(t4 t5:I)(W:X):Prop:=
 ∃i:Nat,t5=Y O i/\i<=b.length/\Ka 27 2 W c.heap.size t4 (((b.take i).map f).map pc)/\Aa c W
def Tq(w:X)(v:I)(p:Pl)(h:ub w v p.shape)(hok:Ca p=true):Calls Tryz.prog 31 #[C (nc p v)] w (Ci w (Ga p)):=by
 rw[<-oJ];have r:=VG hok;have hB:=r.bd;have aa:=IK (way:=p.way) hB r.ne;have hT:=fun W (hW:Aa w W)=>rO W p.name v p.shape p.depth p.density p.gx p.gz p.way (h.f hW) hB r.ne (by have:=r.le;omega) r.w0 r.w1 (by have:=r.gx;unfold Bd at *;omega) (by have:=r.gz;unfold Bd at *;omega);have ac:=r.ax;have ae:=r.az;have aj:(Gg p.way p.shape).length<=12:=by unfold Gg Wg;simpa using r.le
 unfold om;obtain⟨nm,l,d,de,gx,gz,wy,ax,az,sk⟩:=p;dsimp only at h hok r hB aa hT ac ae aj ⊢;obtain⟨gg,al⟩:=gX (Bf wy (gx,gz));obtain⟨j,f⟩:=gX (Gg wy l);obtain⟨F,hF⟩:∃F:Int×Int->Int×Int,(fun q=>(q.1+ax,q.2+az))=F:=⟨_,rfl⟩;rw[al,f]at hT;rw[f]at aa aj ⊢;rw[hF];obtain⟨a,c,rfl⟩:=h.form;obtain⟨n0,am⟩:=gX l.length;have HT:=ka hT;have HF:=ka hF;have au:=ka aa;unfold Bd at ac ae;obtain⟨aA,aB⟩:=ac;obtain⟨aC,aD⟩:=ae;unfold nc;dsimp only;rw[am]at HT ⊢;clear al f hF hT aa hB r hok h am;have aF:=CG;go_in;go_wp2_with(go_at_call 33;refine cM (HT.o _ eA) ?_;rintro e w2 ⟨v2,rfl,ai,ap⟩;obtain⟨a2,n2,c2,rfl⟩:=ai.i;obtain⟨⟨af,av⟩,ay⟩:=oe w ap);have X2:Aa w w2:=eA;have f:=ai.pr;have an:=f.len;obtain⟨n,hn⟩:=gX j.length;rw[hn]at an aj;subst an;have aq:=ka f;have Hn:=ka hn;have b0:w2.cell? ⟨w.heap.size,7,V⟩=N (Y O ax):=by rw[af _ _ sM];go_simp
 have b1:w2.cell? ⟨w.heap.size,8,V⟩=N (Y O az):=by rw[af _ _ sM];go_simp
 clear f hn ai ap af av;go_loopw [4,5] (Xy w2 j F) (fun _ t5 _=>n2-(intOf t5).toNat)
 case atStart=>exact⟨0,rfl,by omega,Ka.nil _ _ _ _,eR _⟩
 case round =>
  obtain⟨i,rfl,hi,y,hx⟩:=hrel;rw[Hn.o]at hi;obtain⟨va,vn,vc,rfl⟩:=y.i;have s:=ka y;have d0:=hx.d b0;have d1:=hx.d b1;clear y;by_cases ah:i<n2
  ·obtain⟨b,o,rfl,aE,c0,c1⟩:=(aq.o.f hx).pt (i:=i) (by rw[Hn.o];exact ah);have bk:=au.o _ (Gi (l:=j) (i:=i) (by rw[Hn.o];exact ah));have R:(j.take (i+1)).map F=(j.take i).map F++[F (Qa j i)]:=by
    rw[Uf j i (Qa j i) (by rw[Ch (by rw[Hn.o];exact ah)];exact gE _),List.map_append];rfl
   have ak:F (Qa j i)=((Qa j i).1+ax,(Qa j i).2+az):=by rw[<-HF.o]
   rw[ak]at R;obtain⟨⟨x,z⟩,hq⟩:∃q,Qa j i=q:=⟨_,rfl⟩;rw[hq]at c0 c1 bk R;unfold Bd at bk;dsimp only at c0 c1 bk R;obtain⟨⟨x0,x1⟩,⟨z0,z1⟩⟩:=bk;have ar:=ka R;have g0:(0:Int)<=(i:Int):=oM;have g1:(i:Int)<(n2:Int):=oM;have aH:IntKind.i64.wrap (x+ax)=x+ax:=iW _ oM;have aI:IntKind.i64.wrap (z+az)=z+az:=iW _ oM;clear hq R ak;go_wp2;refine Mh (fun i=>decide (20<i)) (Ea [(⟨b,o+i*2,V⟩,Y O x),(⟨b,o+i*2+1,V⟩,Y O z),(⟨w.heap.size,7,V⟩,Y O ax),(⟨w.heap.size,8,V⟩,Y O az)]) kM ?_ (fun u=>?_)
   ·exact cA
   refine sN 0 ?_
   iterate 20 refine Wh ?_
   refine oN ?_;refine Kc (i:=20) fun K hK=>?_;go_simp;refine kO hK (fun _=>cE u ((eR wr.drew).alloc _)) (fun u=>?_);clear hK K;replace u:=u rfl;refine Kc (i:=21) fun K hK=>?_;refine fd (T:=27) (t:=22) (z:=C #[Y O 0,Y O 0]) (k:=2) (bytes:=16) (v:=Z va vn vc) (base:=w2.heap.size) yE rfl dM dM Tryz.underlying22 rfl _ _ rfl rfl (s.o.ext ((eR wr).alloc (Obj.cells #[Value.int O (x+ax),Value.int O (z+az)] 27)).drew) (ad:=⟨wr.heap.size,0,V⟩) (m:=1) (c:=1) rfl [pc (x+ax,z+az)] rfl (by simp[pc]) (by exact Wq wr (x+ax) (z+az)) (sE _ _) (by rw[lL,lL,List.length_take];omega) (by have:=hx.size;simp only[wZ,jc];omega) ?_;intro v5 w5 P ag aw;have ao:=s.o.lt;have ab:Below w2.heap.size wr w5:=((((eR wr).alloc (Obj.cells #[Value.int O (x+ax),Value.int O (z+az)] 27)).drew).below hx.size).trans (Bh ag (by have:=hx.size;simp only[wZ,jc];omega) (fun k hk=>(ao k hk).1));have X5:Aa w2 w5:=hx.y ab (nE _);have aG:=ab.size;refine kO hK (fun h=>nomatch h) (fun _=>?_);clear hK K;obtain⟨a5,n5,c5,rfl⟩:=P.i;refine Kc (i:=22) fun K hK=>?_;go_simp;refine kO hK (fun h=>nomatch h) (fun u=>?_);clear hK K;refine Lb kM ?_ _;go_wp2;go_roundw
   case rel=>exact⟨i+1,by go_num,by rw[Hn.o];omega,by rw[ar.o,List.map_append];exact P,X5⟩
   case measure=>simp[intOf];omega
  ·obtain rfl:i=n2:=oM;have e:(j.take i).map F=j.map F:=by rw[lT (by rw[Hn.o];omega)]
   go_wp2;go_ret;exact⟨_,rfl,by have:=s.o;rw[e]at this;exact this.mono X2.size,X2.trans hx⟩
def yF(w:X)(v:I)(l:LP)(h:ub w v l)(K:l≠[]):Calls Tryz.prog 118 #[v] w fun e w'=>e=.returned (.tuple #[Y O (Qa l 0).1,Y O (Qa l (l.length-1)).1])/\Aa w w':=by
 obtain⟨a,c,rfl⟩:=h.form;obtain⟨n,j⟩:=gX l.length;have k:0<n:=by rw[<-j];exact List.length_pos_iff.2 K
 have f:=h.le;unfold maxLen at f;obtain⟨b,o,rfl,ab,s,t⟩:=h.pt (i:=0) (by rw[j];exact k);obtain⟨b2,o2,W,ac,u,r⟩:=h.pt (i:=n-1) (by rw[j];omega);cases W;rw[j];obtain⟨⟨x,z⟩,P⟩:∃q,Qa l 0=q:=⟨_,rfl⟩;obtain⟨⟨R,z2⟩,d⟩:∃q,Qa l (n-1)=q:=⟨_,rfl⟩;obtain⟨m,y⟩:=gX (n-1);rw[y]at d u r;rw[y,P,d];rw[P]at s t;rw[d]at u r;dsimp only at s t u r ⊢;simp only[Nat.zero_mul,Nat.add_zero]at s;obtain rfl:n=m+1:=oM;have g1:(m:Int)+1-1=(m:Int):=oM;have g2:(m:Int)<(m:Int)+1:=oM;have kw:IntKind.i64.wrap (m:Int)=(m:Int):=iW _ oM;have k0:(0:Int)<=(m:Int):=Int.natCast_nonneg m;clear f k P d y j h t r;go_in;go_wp2;refine Uc [(⟨b,o,V⟩,Y O x),(⟨b,o+m*2,V⟩,Y O R)] cA fun aa=>?_;refine sN 0 ?_
 iterate 13 refine Bb ?_
 refine oN ?_;refine Sb ?_;go_wp2;exact bR (v:=.tuple #[Y O x,Y O R]) (by simp[results,Tryz.results118,go_sem]) rfl ⟨rfl,eA⟩
def xS(w:X)(l:LP)(by':Int)(b c:I)(W:X):Prop:=
 ∃i f:Nat,c=Y O i/\b=Y O f/\Je l by' i=f/\i<=l.length/\Aa w W
def BH{l by'}(b:by'=1\/by' = -1){i}(h:i<=l.length)(h0:0<l.length):Je l by' i<l.length:=by
 cases i with
 | zero=>unfold Je;omega
 | succ i=>have:=(tL l b i).1;omega
def vS(w:X)(cs:LP)(by':Int)(s:Nat)(L:LP)(b t9:I)(W:X):Prop:=
 ∃m i:Nat,m<L.length/\t9=Y O i/\Eh cs.length s by' (m+1)=i/\Ka 27 2 W w.heap.size b ((L.take (m+1)).map pc)/\Aa w W
def VK(w:X) x z:Ka 27 2 (w.alloc (Obj.cells #[Value.int O (x),Value.int O (z)] 27)) w.heap.size (Z (N ⟨w.heap.size,0,V⟩) 1 1) [pc (x,z)]:=
 ⟨by simp[pc],by simp[pc],.inr ⟨w.heap.size,1,_,by simp,nE _,aN w _,by simp,by unfold maxLen;omega,by simp,by simp[pc]⟩⟩
def DE(w:X)(v:I)(l L:LP)(by':Int)(hb:by'=1\/by' = -1)(h:ub w v l)(hc:Jq l by' L)(hB:∀q∈l,Bd 3000000 q.1/\Bd 3000000 q.2)(hl:l.length<=1000)(hL:L.length<=1000):Calls Tryz.prog 99 #[v,Y O by'] w (Ci w L):=by
 obtain⟨a,c,rfl⟩:=h.form;obtain⟨n,hn⟩:=gX l.length;have aj:0<n:=by rw[<-hn];exact hc.pos
 have ao:0<L.length:=List.length_pos_iff.2 hc.ne;rw[hn]at hl ⊢;have u:=ka hn;have H:=ka h;have HB:=ka hB;have Hc:=ka hc;have Hb:=ka hb;have b0:-1<=by':=oM;have b1:by'<=1:=oM;clear hn h hB hc hb;go_in;go_wp2;go_loopw [6,7] (xS w l by') (fun _ t7 _=>n-(intOf t7).toNat)
 case atStart=>exact⟨0,0,rfl,rfl,rfl,by omega,eR _⟩
 case round =>
  obtain⟨i,f,rfl,rfl,hf,hi,hx⟩:=hrel;rw[u.o]at hi;have ae:Je l by' i<n:=by rw[<-u.o];exact BH Hb.o (by rw[u.o];exact hi) (by rw[u.o];exact aj)
  have K:Je l by' (i+1)=if ph by' (Qa l i) (Qa l f)then i else f:=by subst hf;rfl
  rw[hf]at ae;obtain⟨b,o,rfl,aJ,d0,d1⟩:=(H.o.f hx).pt (i:=f) (by rw[u.o];exact ae);by_cases aw:i<n
  ·obtain⟨b2,o2,e2,aE,c0,c1⟩:=(H.o.f hx).pt (i:=i) (by rw[u.o];exact aw);cases e2;have bi:=HB.o _ (Gi (l:=l) (i:=i) (by rw[u.o];exact aw));have bf:=HB.o _ (Gi (l:=l) (i:=f) (by rw[u.o];exact ae));obtain⟨⟨x,z⟩,hq⟩:∃q,Qa l i=q:=⟨_,rfl⟩;obtain⟨⟨r,fz⟩,hp⟩:∃q,Qa l f=q:=⟨_,rfl⟩;rw[hq]at c0 c1 bi;rw[hp]at d0 d1 bf;have K:Je l by' (i+1)=if ph by' (x,z) (r,fz)then i else f:=by rw[<-hq,<-hp];exact K
   have ag:Je l by' (i+1)=if x<r\/(x=r/\by'*(z-fz)<0)then i else f:=by rw[K];unfold ph;rfl
   unfold Bd at bi bf;dsimp only at c0 c1 d0 d1 bi bf;have g0:(0:Int)<=(i:Int):=oM;have g1:(i:Int)<(n:Int):=oM;have g2:(0:Int)<=(f:Int):=oM;have g3:(f:Int)<(n:Int):=oM;obtain⟨M,hM⟩:=gX (by'*(z-fz));have aI:-6000000<=M/\M<=6000000:=by rw[<-hM];rcases Hb.o with h|h<;>subst h<;>omega
   simp only[hM]at ag;have aM:IntKind.i64.wrap (z-fz)=z-fz:=iW _ oM;have aO:IntKind.i64.wrap M=M:=iW _ oM;have ah:=ka ag;clear hf hq hp K ag;by_cases h1:x<r
   ·have e:x<r\/(x=r/\M<0):=.inl h1;have E:=ka e;(have k1:decide (x<r)=true:=by simpa using h1);clear e;go_wp2;refine Uc [(⟨b,o+i*2,V⟩,Y O x),(⟨b,o+i*2+1,V⟩,Y O z),(⟨b,o+f*2,V⟩,Y O r),(⟨b,o+f*2+1,V⟩,Y O fz)] cA fun ab=>?_;refine sN 0 ?_
    iterate 12 refine Bb ?_
    (iterate 27 refine Nf ?_);refine Bb ?_;refine oN ?_;refine Sb ?_;go_wp2;go_roundw
    case rel=>exact⟨i+1,_,by go_num,rfl,by rw[ah.o,if_pos E.o],by rw[u.o];omega,eA⟩
    case measure=>simp[intOf];omega
   ·(have k1:decide (x<r)=false:=by simpa using h1);by_cases h2:x=r
    ·(have h3:(x==r)=true:=by simpa using h2);by_cases h4:M<0
     ·(have k2:decide (M<0)=true:=by simpa using h4);have e:x<r\/(x=r/\M<0):=.inr ⟨h2,h4⟩;have E:=ka e;clear h2 e;go_wp2;refine Uc [(⟨b,o+i*2,V⟩,Y O x),(⟨b,o+i*2+1,V⟩,Y O z),(⟨b,o+f*2,V⟩,Y O r),(⟨b,o+f*2+1,V⟩,Y O fz)] cA fun ab=>?_;refine sN 0 ?_
      (iterate 40 refine Bb ?_);refine oN ?_;refine Sb ?_;go_wp2;go_roundw
      case rel=>exact⟨i+1,_,by go_num,rfl,by rw[ah.o,if_pos E.o],by rw[u.o];omega,eA⟩
      case measure=>simp[intOf];omega
     ·(have k2:decide (M<0)=false:=by simpa using h4);have e:¬(x<r\/(x=r/\M<0)):=oM;have E:=ka e;clear h2 e;go_wp2;refine Uc [(⟨b,o+i*2,V⟩,Y O x),(⟨b,o+i*2+1,V⟩,Y O z),(⟨b,o+f*2,V⟩,Y O r),(⟨b,o+f*2+1,V⟩,Y O fz)] cA fun ab=>?_;refine sN 0 ?_
      (iterate 40 refine Bb ?_);refine oN ?_;refine Sb ?_;go_wp2;go_roundw
      case rel=>exact⟨i+1,_,by go_num,rfl,by rw[ah.o,if_neg E.o],by rw[u.o];omega,eA⟩
      case measure=>simp[intOf];omega
    ·(have h3:(x==r)=false:=by simpa using h2);have e:¬(x<r\/(x=r/\M<0)):=oM;have E:=ka e;clear h2 e;go_wp2;refine Uc [(⟨b,o+i*2,V⟩,Y O x),(⟨b,o+i*2+1,V⟩,Y O z),(⟨b,o+f*2,V⟩,Y O r),(⟨b,o+f*2+1,V⟩,Y O fz)] cA fun ab=>?_;refine sN 0 ?_
     iterate 24 refine Bb ?_
     iterate 14 refine Nf ?_
     (iterate 2 refine Bb ?_);refine oN ?_;refine Sb ?_;go_wp2;go_roundw
     case rel=>exact⟨i+1,_,by go_num,rfl,by rw[ah.o,if_neg E.o],by rw[u.o];omega,eA⟩
     case measure=>simp[intOf];omega
  ·obtain rfl:i=n:=oM;obtain⟨⟨sx,sz⟩,hp⟩:∃q,Qa l f=q:=⟨_,rfl⟩;rw[hp]at d0 d1;dsimp only at d0 d1;have hs:Je l by' l.length=f:=by rw[u.o];exact hf
   have ac:=Hc.o.at' 0 ao;rw[hs,u.o,lw ae,hp]at ac;have g2:(0:Int)<=(f:Int):=oM;have g3:(f:Int)<(i:Int):=oM;have g4:¬(i:Int)<(i:Int):=oM;have P:=CP (n:=i) (s:=f) (k:=0) (by':=by') aj;rw[lw ae]at P;have ak:Int.tmod ((f:Int)+by'+(i:Int)) (i:Int)=((Eh i f by' 1:Nat):Int):=by
    rw[Int.tmod_eq_emod_of_nonneg oM];exact P
   have aL:¬(i:Int)=0:=oM;have aH:¬i=0:=oM;obtain⟨j1,aq⟩:=gX (Eh i f by' 1);rw[aq]at ak;have aC:=ka aq;have aB:=ka ac;have Hs:=ka hs;have aA:=hx.size;clear hp hf ac P aq hs;go_wp2;go_loopw [8,9] (vS w l by' f L) (fun t8 _ _=>L.length-(match t8 with | Z _ n _=>n|_=>0))
   case atStart =>
    refine⟨0,j1,ao,rfl,by rw[u.o];exact aC.o,?_,eA⟩;have e:(L.take (0+1)).map pc=[pc (sx,sz)]:=by
     rw[Uf L 0 (Qa L 0) (by rw[Ch ao];exact gE _),aB.o];rfl
    rw[e];exact(VK wr sx sz).mono aA
   case round =>
    clear d0 d1 hx g2 g3 ak aA;obtain⟨m,j,hm,rfl,hj,d,hx⟩:=hrel;rw[u.o]at hj;(have aF:j<i:=by rw[<-hj];exact GO aj);obtain⟨b2,o2,e2,aE,c0,c1⟩:=(H.o.f hx).pt (i:=j) (by rw[u.o];exact aF);cases e2;obtain⟨va,vc,az⟩:=d.form;rw[lL,List.length_take,Nat.min_eq_left oM]at az;subst az;obtain⟨g,rfl,hg,aK⟩:=d.blk (by rw[lL,List.length_take];omega);have R:((L.take (m+1)).map pc)[m]?=N (pc (Qa L m)):=by
     rw[lP,List.getElem?_take,if_pos oM,Ch hm,gE hm];rfl
    have l0:=d.cell (j:=0) R rfl;have aa:m+1<L.length->(Qa L m).1<(Qa L (m+1)).1/\Qa L (m+1)=Qa l j:=fun h9=>⟨Hc.o.up m h9,by rw[Hc.o.at' _ h9,Hs.o,u.o,hj]⟩;have W:¬m+1<L.length->(Qa l j).1<=(Qa L m).1:=fun h9=>by
     have:=Hc.o.stop;rw[Hs.o,u.o,show L.length=m+1 by omega,hj]at this;exact this
    obtain⟨⟨qx,qz⟩,hq⟩:∃q,Qa l j=q:=⟨_,rfl⟩;obtain⟨⟨lx,lz⟩,ar⟩:∃q,Qa L m=q:=⟨_,rfl⟩;rw[hq]at c0 c1 aa W;rw[ar]at l0 aa W;dsimp only at c0 c1 l0 aa W;simp only[Nat.add_zero]at l0;have al:=ka d;have P:=CP (n:=i) (s:=f) (k:=m+1) (by':=by') aj;rw[hj]at P;have ak:Int.tmod ((j:Int)+by'+(i:Int)) (i:Int)=((Eh i f by' (m+1+1):Nat):Int):=by
     rw[Int.tmod_eq_emod_of_nonneg oM];exact P
    obtain⟨j2,ai⟩:=gX (Eh i f by' (m+1+1));rw[ai]at ak;have aD:=ka ai;have k0:(0:Int)<=(j:Int):=oM;have k1:(j:Int)<(i:Int):=oM;have k2:(0:Int)<=(m:Int):=oM;have k3:(m:Int)<(m:Int)+1:=oM;have k4:(m:Int)+1-1=(m:Int):=oM;by_cases y:m+1<L.length
    ·obtain⟨h1,h2⟩:=aa y;rw[h2]at h1;dsimp only at h1;(have e1:decide (lx<qx)=true:=by simpa using h1);have H2:=ka h2;have an:=ka hx.size;have kw:IntKind.i64.wrap (m:Int)=(m:Int):=iW _ oM;clear aa W hq ar d R hj P ai h2;go_wp2;refine Uc [(⟨b,o+j*2,V⟩,Y O qx),(⟨g,m*2,V⟩,Y O lx)] cA fun ab=>?_;refine sN 0 ?_
     (iterate 13 refine Bb ?_);refine oN ?_;refine Sb ?_;clear kw;go_wp2_with(at_builtin;refine Ah (T:=27) (t:=88) (z:=C #[Y O 0,Y O 0]) (k:=2) (bytes:=16) (base:=w.heap.size) (v:=Z (N ⟨g,0,V⟩) (m+1) vc) (m:=1) (c:=1) (ad:=⟨wr.heap.size,0,V⟩) yE rfl dM dM Tryz.underlying88 rfl _ _ rfl rfl (al.o.ext ((eR wr).alloc (Obj.cells #[Value.int O (qx),Value.int O (qz)] 27)).drew) rfl [pc (qx,qz)] rfl (by simp[pc]) (by exact Wq wr qx qz) (sE qx qz) (by rw[lL,List.length_take];omega) (by have:=an.o;simp only[wZ,jc];omega) ?_;intro v' w5 af ap aG);obtain⟨a5,c5,ay⟩:=af.form;rw[lA,lL,List.length_take,Nat.min_eq_left oM,List.length_singleton]at ay;subst ay;go_roundw
     case rel =>
      have ax:=al.o.lt;have av:Below w.heap.size wr w5:=((((eR wr).alloc (Obj.cells #[Value.int O (qx),Value.int O (qz)] 27)).drew).below an.o).trans (Bh ap (by have:=an.o;simp only[wZ,jc];omega) (fun k hk=>(ax k hk).1));refine⟨m+1,j2,y,rfl,by rw[u.o];exact aD.o,?_,hx.y av (nE _)⟩;rw[Uf L (m+1) (Qa L (m+1)) (by rw[Ch y];exact gE _),List.map_append,H2.o];exact af
     case measure=>simp;omega
    ·have h1:=W y;(have e1:decide (lx<qx)=false:=by simp;omega);have eL:L.length=m+1:=oM;have am:Ka 27 2 wr w.heap.size (Z (N ⟨g,0,V⟩) (m+1) vc) (L.map pc):=by
      have:=d;rw[lT oM]at this;exact this
     have au:=ka am;have kw:IntKind.i64.wrap (m:Int)=(m:Int):=iW _ oM;clear aa W hq ar d R hj P ai am eL h1;go_wp2;refine Uc [(⟨b,o+j*2,V⟩,Y O qx),(⟨g,m*2,V⟩,Y O lx)] cA fun ab=>?_;refine sN 0 ?_
     (iterate 13 refine Bb ?_);refine oN ?_;refine Sb ?_;go_wp2;go_ret;exact⟨_,rfl,au.o.ext (eR wr).drew,hx.drew⟩
end
section
open Go.RowKit
end
section
open Go.RowKit Go.Shelf
attribute [local go_sem] Oper.semAt_some
def zR(w:X)(n:Nat)(t3:I)(W:X):Prop:=∃i:Nat,t3=Y O i/\i<=n/\Aa w W
def yr w v f(h:Sf w v f)(h0:∀q∈f,q=0):Calls Tryz.prog 29 #[v] w fun e P=>e=.returned (J true)/\Aa w P:=by
 obtain⟨a,c,rfl⟩:=Sl.form h;obtain⟨n,k⟩:=gX f.length;have d:=Sl.le h;unfold maxLen at d;rw[k]at d ⊢;have r:=ka k;have H:=ka h;have u:=ka h0;clear k h h0;go_in;go_wp2;go_loopw [3] (zR w n) (fun K _=>n-(intOf K).toNat)
 case atStart=>exact⟨0,rfl,by omega,eR _⟩
 case round =>
  obtain⟨i,rfl,hi,t⟩:=hrel;by_cases j:i<n
  ·obtain⟨q,l⟩:∃q,f[i]?=N q:=⟨f[i]'(by rw[r.o];omega),by simp[r.o,j]⟩;obtain rfl:q=0:=u.o q (lM l);obtain⟨b,o,R,m1,c1,s1,W,m2,c2,rfl,hb,s,c0,y,z⟩:=(Sf.f H.o t).at' l;have g0:(0:Int)<=(i:Int):=oM;have g1:(i:Int)<(n:Int):=oM;have x:=ka s;clear l s;go_wp2_with(go_at_call 93;(with_reducible refine(Ur _ _ _ x.o).mono ?_);rintro e w1 ⟨rfl,m⟩);go_roundw
   case rel=>exact⟨i+1,by go_num,by omega,t.trans m⟩
   case measure=>simp[intOf];omega
  ·obtain rfl:i=n:=oM;go_wp2;go_ret;exact⟨rfl,eA⟩
def zA(w:X)(r s:I)(ps:List Pl)(a:Nat)(p:Pl)(b f:Int)(j:LP)(hg:∃a n c,r=Z a n c)(x:Ic w s ps)(u:ps[a]?=N p)(d:b<0\/∃(y:Nat)(q:Pl),b=(y:Int)/\ps[y]?=N q/\ve p q=true/\(a:Int)≠b)(k:Wb (Da p))(t:Wb j)(m:Kh j)(i:∀W,Aa w W->Calls Tryz.prog 76 #[C #[r,s],Y O b] W fun e z=>∃v,e=.returned v/\Fa z v j/\Aa W z)(hp:f=0):Calls Tryz.prog 72 #[C #[r,s],Y O a,Y O b,Y O f] w (qg w (Hh p j b f)):=by
 by_cases l:(Ac (Da p) j).lo<(Ac (Da p) j).hi
 ·cases hro:ud (Ac (Da p) j) f with
  | none=>exact UL w r s ps a p b f j hg x u d k t m i hp l hro
  | some K=>exact QL w r s ps a p b f j hg x u d k t m i hp l K hro
 ·exact TL w r s ps a p b f j hg x u d k t m i hp l
end
section
open Go.RowKit Go.Shelf Go.Sort Go.Lib
def uk.keep{w w' c b}(h:uk w c b)(k:Ia 2 w w'):uk w' c b:=by obtain⟨f,t,d,e,i⟩:=h;exact⟨f,t,d,e.keep k,i.keep k⟩
def Pd(w:X)(base:Nat)(v:I)(d:List Be):Prop:=∃cs,Ka 79 17 w base v cs/\cs.length=d.length/\∀(i:Nat) c b,cs[i]?=N c->d[i]?=N b->uk w c b
def Pd.ext{w w' base v d}(h:Pd w base v d)(k:Aa w w'):Pd w' base v d:=by obtain⟨e,f,j,l⟩:=h;exact⟨e,f.ext k,j,fun i c b hc m=>(l i c b hc m).ext k⟩
def Pd.nil w base:Pd w base (Z V 0 0) []:=⟨[],Ka.nil _ _ _ _,rfl,fun i c b hc=>by simp at hc⟩
def Pd.i{w base v b}(h:Pd w base v b):∃a n c,v=Z a n c:=by obtain⟨e,d,_⟩:=h;exact d.i
def Pd.app{wr j base m f cs d b}(h:Ka 79 17 j base m (cs++[d]))(k:cs.length=f.length)(l:∀(i:Nat) c b,cs[i]?=N c->f[i]?=N b->uk wr c b)(s:Ia 2 wr j)(q:uk j d b):Pd j base m (f++[b]):=by
 refine⟨cs++[d],h,by simp[k],fun i c n hc e=>?_⟩;by_cases r:i<cs.length
 ·rw[List.getElem?_append_left r]at hc;rw[List.getElem?_append_left oM]at e;exact(l i c n hc e).keep s
 ·rw[List.getElem?_append_right oM]at hc e;have t:=(lS.1 hc).1;simp at t;have:i-cs.length=0:=oM;rw[this]at hc;rw[show i-f.length=0 by omega]at e;simp at hc e;subst hc e;exact q
def mI:(Tryz.prog.info? 79).map (fun i=>(i.zero,i.size,i.bytes))=N (N (C Kk),17,264):=kM
def Sh(g:LP)(ps:List Pl)(a:Nat)(p:Pl)(c b:Int):Option Be:=
 if (a:Int)=b then V else if b<0 then Hh p g b c else match ps[b.toNat]? with|none=>V|some q=>if ve p q=true then Hh p (La q) b c else V
def zh(g:LP)(ps:List Pl)(a:Nat)(p:Pl)(b:Int)(n:Nat):List Be:=(List.range n).filterMap fun k:Nat=>Sh g ps a p b ((k:Int)-1)
def XO g ps a p c n:zh g ps a p c (n+1)=zh g ps a p c n++(match Sh g ps a p c ((n:Int)-1)with|none=>[]|some b=>[b]):=by
 unfold zh;rw[List.range_succ,List.filterMap_append]
 congr 1
 cases h:Sh g ps a p c ((n:Int)-1)<;>simp[h]
def vN g ps a p b n:(zh g ps a p b n).length<=n:=by unfold zh;have:=List.length_filterMap_le (fun k:Nat=>Sh g ps a p b ((k:Int)-1)) (List.range n);simpa using this
def xJ w d f g ps(a:Nat) p(b c:Int)(hg:Fa w d g)(j:Ic w f ps)(l:ps[a]?=N p)(m:Nb g=true)(hok:∀q∈ps,Ca q=true)(x:-1<=b)(y:b<ps.length)(hp:c=0):Calls Tryz.prog 72 #[C #[d,f],Y O a,Y O b,Y O c] w (qg w (Sh g ps a p c b)):=by
 have n:=hok p (lM l);unfold Sh;by_cases k:(a:Int)=b
 ·rw[if_pos k,<-k];exact SL w d f ps a p c (Ja hg) j l
 rw[if_neg k];by_cases t:b<0
 ·rw[if_pos t];exact zA w d f ps a p b c g (Ja hg) j l (.inl t) (Ye n).1 (On m) (xO m) (fun W u=>(MN W d f b t (Ja hg) (Ja j)).mono (by rintro e z ⟨rfl,v⟩;exact⟨_,rfl,hg.f (u.trans v),v⟩)) hp
 rw[if_neg t];obtain⟨q,r⟩:∃q,ps[b.toNat]?=N q:=⟨ps[b.toNat]' oM,gE _⟩;have s:=lM r;simp only[r];have i:b=((b.toNat:Nat):Int):=oM;cases hmt:ve p q with
 |false=>
  rw[if_neg sM];exact uB w d f ps a p b c (Ja hg) j l b.toNat i q r hmt k
 |true=>
 rw[if_pos rfl];refine zA w d f ps a p b c (La q) (Ja hg) j l (.inr ⟨b.toNat,q,i,r,hmt,k⟩) (Ye n).1 (Ye (hok q s)).2 (WI (hok q s)) (fun W u=>?_) hp;have:=mL W d f ps b.toNat q (Ja hg) (j.f u) r;rw[<-i]at this;exact this
def Pd.mono{w base b' v b}(h:Pd w base v b)(k:b'<=base):Pd w b' v b:=by obtain⟨c,d,e,f⟩:=h;exact⟨c,d.mono k,e,f⟩
def Fm(w:X)(b:List Be)(e:Ending)(w':X):Prop:=∃v,e=.returned (.tuple #[v,Y O 0])/\Pd w' w.heap.size v b/\Aa w w'
def YF(w:X)(b:Nat)(j k:I)(ps:List Pl)(c:Nat->List Be)(f:Nat)(d e:I)(W:X):Prop:=
 ∃i:Nat,i<=ps.length+1/\e=Y O ((i:Int)-1)/\f=ps.length+1-i/\Aa w W/\b+1<=W.heap.size/\W.heap[b]?=N (.cells #[j,k] 124 (0,0))/\Pd W (b+1) d (c i)
def uk.form{w c b}(h:uk w c b):∃a m c1 s a2 m2 c2 b1 n k t b2 n2 k2 a' m' c' s' a2' m2' c2' b' n' k' t' b2' n2' k2',c=[Y O b.num,Z a m c1,J s,Z a2 m2 c2,Z b1 n k,J t,Z b2 n2 k2,Z a' m' c',J s',Z a2' m2' c2',Z b' n' k',J t',Z b2' n2' k2',Y O b.d1.1,Y O b.d1.2,Y O b.d2.1,Y O b.d2.2]:=by
 obtain⟨f,t,rfl,⟨a,m,c,s,a2,m2,c2,b1,n,k,d,b2,n2,k2,j,_,_⟩,a',m',c',s',a2',m2',c2',b',n',k',t',b2',n2',k2',l,_,_⟩:=h;have e:f=[Z a m c,J s,Z a2 m2 c2,Z b1 n k,J d,Z b2 n2 k2]:=by simpa using j
 have i:t=[Z a' m' c',J s',Z a2' m2' c2',Z b' n' k',J t',Z b2' n2' k2']:=by simpa using l
 subst e i;exact⟨a,m,c,s,a2,m2,c2,b1,n,k,d,b2,n2,k2,a',m',c',s',a2',m2',c2',b',n',k',t',b2',n2',k2',rfl⟩
def Js{W w' o e}(h:qg W o e w'):∃nb a m c1 s a2 m2 c2 b1 n k t b2 n2 k2 a' m' c' s' a2' m2' c2' b' n' k' t' b2' n2' k2' e1 e2 e3 e4 bb,e=.returned (.tuple #[C #[Y O nb,Z a m c1,J s,Z a2 m2 c2,Z b1 n k,J t,Z b2 n2 k2,Z a' m' c',J s',Z a2' m2' c2',Z b' n' k',J t',Z b2' n2' k2',Y O e1,Y O e2,Y O e3,Y O e4],J bb])/\(bb=true->∃be,o=N be/\uk w' [Y O nb,Z a m c1,J s,Z a2 m2 c2,Z b1 n k,J t,Z b2 n2 k2,Z a' m' c',J s',Z a2' m2' c2',Z b' n' k',J t',Z b2' n2' k2',Y O e1,Y O e2,Y O e3,Y O e4] be)/\(bb=false->o=V)/\Aa W w':=by
 obtain⟨i,⟨d,f⟩|⟨b,c,d,f,j⟩⟩:=h
 ·exact⟨0,V,0,0,false,V,0,0,V,0,0,false,V,0,0,V,0,0,false,V,0,0,V,0,0,false,V,0,0,0,0,0,0,false,f,(fun h=>by cases h),fun _=>d,i⟩
 ·obtain⟨a,m,c1,s,a2,m2,c2,b1,n,k,t,b2,n2,k2,a',m',c',s',a2',m2',c2',b',n',k',t',b2',n2',k2',rfl⟩:=j.form;exact⟨b.num,a,m,c1,s,a2,m2,c2,b1,n,k,t,b2,n2,k2,a',m',c',s',a2',m2',c2',b',n',k',t',b2',n2',k2',b.d1.1,b.d1.2,b.d2.1,b.d2.2,true,f,fun _=>⟨b,d,j⟩,(fun h=>by cases h),i⟩
def PL{K wr W P l i vg vs v9 ps e va cs d R A}(ac:i<ps.length+1)(aa:K.heap.size=l)(hx:Aa K wr)(ab:l+1<=wr.heap.size)(hK:wr.heap[l]?=N (.cells #[vg,vs] 124 (0,0)))(z:Aa wr W)(hz:l+1<=W.heap.size)(x:Ka 79 17 wr (l+1) va cs)(v:cs.length=(e i).length)(w:∀(j:Nat) c b,cs[j]?=N c->(e i)[j]?=N b->uk wr c b)(q:Ka 79 17 P (l+1) v9 (cs++[d]))(f:(W.alloc (.cells A 79)).grownBy P va.ownBlock)(y:uk W d R)(hs:e (i+1)=e i++[R]):YF K l vg vs ps e (ps.length+1-(i+1)) v9 (Y O (i:Int)) P:=by
 have m:=z.alloc (.cells A 79);have r:=x.ext m;have s:l+1<=(W.alloc (.cells A 79)).heap.size:=by simp only[wZ];omega
 have n:=Bh (base:=l+1) f s (fun k hk=>(r.lt k hk).1);have t:=r.keepT (T':=2) dM f;have u:=hx.trans m;refine⟨i+1,by omega,by go_num,rfl,u.y n oM,nT s n.size,(n.block _ oM).trans (m.e hK),?_⟩;rw[hs];exact Pd.app q v w (m.keep.trans t) ((y.ext ((eR _).alloc _)).keep t)
def uN w3 w4 r vg vs ps(a:Nat) af(f:Nat->List Be)(ao:Int->Option Be) Q x0 x3 x4 x5 x6 x7 x9 aX aY ay az aA aB aC aD aE aF aG aH aI aJ aZ a0 a1 a3 a4 a5 a6 a7 a8 ba bc bf bg bh bi bj bk bl bm bn bo(aS:∃a n c,vg=Z a n c)(aa:Ic w3 vs ps)(bO:ps.length<=120)(aw:∀n,f (n+1)=f n++(match ao ((n:Int)-1)with|none=>[]|some b=>[b]))(ar:∀n,(f n).length<=n)(aq:f 0=[])(hB:∀W,Aa w3 W->∀b:Int,-1<=b->b<ps.length->Calls Tryz.prog 72 #[C #[vg,vs],Y O a,Y O b,Y O af] W (qg W (ao b)))(an:Aa w3 w4)(aK:r+1<=w4.heap.size)(ap:w3.heap.size=r)(K8:w4.heap[r]?=N (.cells #[vg,vs] 124 (0,0)))(hQ:∀(W:X)(ag aW bp bq br bs bt bu bv bw bx bz bA bB bC bD bE bF bG bH bI bJ bK bL bM:I),Aa w3 W->Pd W (r+1) ag (f (ps.length+1))->(∃a n c,ag=Z a n c)->Q (.exit 0) { tmps:=#[x0,Y O a,Y O af,x3,x4,x5,x6,x7,.pointer (N ⟨r,0,V⟩),x9,ag,aW,bp,bq,ay,az,aA,aB,aC,aD,aE,aF,aG,aH,aI,aJ,br,bs,bt,bu,bv,bw,bx,bz,bA,bB,bC,bD,bE,bF,bG,bH,bI,bJ,bK,bL,bM],defers:=[] } W) :
  (Code.loop (Pf Tryz.f16 0)).wp Tryz.prog Q { tmps:=#[x0,Y O a,Y O af,x3,x4,x5,x6,x7,.pointer (N ⟨r,0,V⟩),x9,Z V 0 0,Y O (-1),aX,aY,ay,az,aA,aB,aC,aD,aE,aF,aG,aH,aI,aJ,aZ,a0,a1,a3,a4,a5,a6,a7,a8,ba,bc,bf,bg,bh,bi,bj,bk,bl,bm,bn,bo],defers:=[] } w4:=by
 obtain⟨ga,gn,gc,rfl⟩:=aS;obtain⟨sa,sn,sc,rfl⟩:=Ja aa;have al:=ka (show sn=ps.length from aa.len);have HB:=ka hB;have am:=ka aw;have aj:=ka ar;have ai:=ka aq;have aL:=ka ap;have HQ:=ka hQ;clear hB aw ar aq ap hQ aa;unfold Pf;simp only[Tryz.f16,jd,List.append_nil,List.nil_append,List.singleton_append,List.getD_cons_zero,List.getD_cons_succ];go_loopg [10,11] (ps.length+1) (YF w3 r (Z ga gn gc) (Z sa sn sc) ps f)
 case atStart=>exact⟨0,by omega,by go_num,by omega,an,aK,K8,by rw[ai.o];exact Pd.nil _ _⟩
 case round =>
  clear K8 an aK ai;obtain⟨i,hi,rfl,rfl,hx,aR,hK,j⟩:=hrel;obtain⟨va,vn,vc,rfl⟩:=j.i;have m0:=Ba hK (i:=0) (u:=Z ga gn gc) rfl;have m1:=Ba hK (i:=1) (u:=Z sa sn sc) rfl;have HK:=ka hK;have Hx:=ka hx;have q:=ka j;clear hK;by_cases aT:i<ps.length+1
  ·have q1:-1<=(i:Int)-1:=oM;have q2:(i:Int)-1<(ps.length:Int):=oM;have q3:(i:Int)-1<(sn:Int):=by have:=al.o;omega
   have ah:=ka (fun(W:X)(hW:Aa wr W)=>HB.o W (hx.trans hW) ((i:Int)-1) q1 q2);clear hx HB q1 q2;have aM:=ka (fun(W:X)(hW:Aa wr W)=>(ah.o W hW).mono (fun e w' h=>Js h));obtain⟨cs,av,P,au⟩:=j;have ak:=ka av;have aP:=ka au;have aO:=ka P;have aQ:=ka (show cs.length<=121 by rw[P];exact nT (aj.o i) oM);clear ah av P au aj HQ hi;go_wp2_with(first|(go_at_call 72;refine cM (aM.o _ eA) ?_;rintro e w5 ⟨nb,a,m,c1,s,a2,m2,c2,b1,n,k,t,b2,n2,k2,a',m',c',s',w,ac,y,b',n',k',t',x,ae,ab,e1,e2,e3,e4,bb,rfl,ax,aU,d⟩;(have z5:=d.size))|(at_builtin;refine Ah (T:=79) (t:=54) (z:=C Kk) (k:=17) (bytes:=264) (base:=r+1) (v:=Z va vn vc) (cs:=cs) (m:=1) (c:=1) (ad:=⟨w5.heap.size+1,0,V⟩) mI rfl dM dM Tryz.underlying54 rfl _ _ rfl rfl (ak.o.ext ((d.alloc _).alloc _)) rfl [[Y O nb,Z a m c1,J s,Z a2 m2 c2,Z b1 n k,J t,Z b2 n2 k2,Z a' m' c',J s',Z w ac y,Z b' n' k',J t',Z x ae ab,Y O e1,Y O e2,Y O e3,Y O e4]] rfl sM (by have:=jq (w5.alloc (.cells #[Y O nb,Z a m c1,J s,Z a2 m2 c2,Z b1 n k,J t,Z b2 n2 k2,Z a' m' c',J s',Z w ac y,Z b' n' k',J t',Z x ae ab,Y O e1,Y O e2,Y O e3,Y O e4] 79)) #[Y O nb,Z a m c1,J s,Z a2 m2 c2,Z b1 n k,J t,Z b2 n2 k2,Z a' m' c',J s',Z w ac y,Z b' n' k',J t',Z x ae ab,Y O e1,Y O e2,Y O e3,Y O e4] 79;simpa only[wZ] using this) (by simp[Value.oneCell']) (by have:=aQ.o;omega) (by simp only[wZ];omega) ?_;intro v' w9 l R bN;obtain⟨a9,n9,c9,rfl⟩:=l.i))
   ·go_roundg (ps.length+1-(i+1))
    case measure=>omega
    case rel =>
     obtain⟨be,K,aV⟩:=ax (by assumption);exact PL aT aL.o Hx.o aR HK.o (d.alloc _) (by simp only[wZ];omega) ak.o aO.o aP.o l R (aV.ext ((eR _).alloc _)) (by rw[am.o,K])
   ·go_roundg (ps.length+1-(i+1))
    case measure=>omega
    case rel =>
     have K:=aU (by assumption);exact⟨i+1,by omega,by go_num,rfl,(Hx.o.trans d).alloc _,by have:=d.size;simp only[wZ];omega,((eR _).alloc _).e (d.e HK.o),by rw[am.o,K,List.append_nil];exact(q.o.ext d).ext ((eR _).alloc _)⟩
  ·obtain rfl:i=ps.length+1:=oM;have q3:¬(((ps.length+1:Nat):Int)-1<(sn:Int)):=by have:=al.o;omega
   go_wp2;exact HQ.o _ _ _ _ _ _ _ _ _ _ _ _ _ _ _ _ _ _ _ _ _ _ _ _ _ _ Hx.o q.o ⟨_,_,_,rfl⟩
def uJ w vg vp g ps(a:Nat) p c(hg:Fa w vg g)(hp:Gf w vp ps)(ae:Gw w)(h0:Rc g ps=0)(ha:ps[a]?=N p)(af:c=0)(ad:Nb g=true)(hok:∀q∈ps,Ca q=true)(ap:ps.length<=120):Calls Tryz.prog 16 #[C #[vg,vp],Y O a,Y O c] w (Fm w (zh g ps a p c (ps.length+1))):=by have HL:=ka (fun(W:X)(m:Aa w W)=>(Zq W vg vp g ps (hg.f m) (hp.f m) (ae.ext m)).mono (fun e w' h=>h.resolve_left (fun h9=>h9.1 h0)));have HB:=ka (fun(W:X)(m:Aa w W)(vs:I)(hs:Ic W vs ps)(b:Int)(v:-1<=b)(x:b<ps.length)=>xJ W vg vs g ps a p b c (hg.f m) hs ha ad hok v x af);obtain⟨ga,gn,gc,rfl⟩:=Ja hg;obtain⟨pa,pn,ax,rfl⟩:=Ja hp;have ag:=hp.len;have Hn:=ka ag;have Hw:=ka (fun(l:Nat)(h:ps.length=l)=>(show Me l a c=false by unfold Me;have:=(lS.1 ha).1;simp;omega));clear ag;have hi:=(lS.1 ha).1;obtain⟨u,d⟩:=gX (zh g ps a p c);have s:=ka (d▸XO g ps a p c);have aa:=ka (d▸vN g ps a p c);have P:=ka (show u 0=[] by rw[<-d];rfl);rw[d];obtain⟨ak,n⟩:=gX (Sh g ps a p c);rw[n]at HB s;obtain⟨R,hR⟩:=gX (Fm w (u (ps.length+1)));rw[hR];have HR:=ka hR;clear hg hp ae h0 ha ad hok hR d n af;go_in;go_wp2_with(first|(go_at_call 49;refine cM (HL.o _ eA) ?_;rintro e z ⟨-,vs,rfl,j,k⟩;obtain⟨sa,l,sc,rfl⟩:=Ja j;obtain⟨al,an⟩:=k.cells;(have z3:=k.size);(simp only[wZ]at z3);(have aq:Me l a c=false:=Hw.o l j.len.symm);(have t:=ka j);clear j;(have au:w.heap.size<z.heap.size:=oM))|(go_at_call 71;(with_reducible refine(PA _ (Z ga gn gc) sa l sc a c ⟨_,_,_,rfl⟩).mono ?_);rw[aq];rintro e w4 ⟨rfl,f⟩;obtain⟨am,ao⟩:=f.cells;(have z4:=f.size);(simp only[wZ]at z4)));have X3:Aa w z:=((eR w).alloc _).trans k;have av:=ka (show l=ps.length from t.o.len);have K8:=f.e (aN z (.cells #[Z ga gn gc,Z sa l sc] 124));have ac:Aa z w4:=((eR z).alloc _).trans f;obtain⟨b8,i⟩:=gX z.heap.size;have K:=ka X3;have ai:=ka i;have aw:w.heap.size<=b8:=oM;have ar:b8+1<=w4.heap.size:=oM;rw[i]at K8;simp only[i];clear al an am ao k f X3 i z3 z4 au;refine uN z w4 b8 (Z ga gn gc) (Z sa l sc) ps a c u ak _ _ _ _ _ _ _ _ _ _ _ _ _ _ _ _ _ _ _ _ _ _ _ _ _ _ _ _ _ _ _ _ _ _ _ _ _ _ _ _ _ _ _ ⟨_,_,_,rfl⟩ t.o ap s.o aa.o P.o (fun W m b v x=>HB.o W (K.o.trans m) _ (t.o.f m) b v x) ac ar ai.o K8 ?_;intro W ay az aA aB aC aD aE aF aG aH aI aJ aK aL aM aO aP aQ aR aS aT aU aV aW aX ah r y;obtain⟨va,vn,vc,rfl⟩:=y;have aj:=ka ah;have ab:=ka r;clear ah r K8 ac HL HB s aa P;go_wp2;rw[<-HR.o];exact⟨_,rfl,ab.o.mono oM,K.o.trans aj.o⟩
section
variable {g:LP} {ps:List Pl} (hg:vd g) (ng:g≠[]) (hok:∀p∈ps,Ca p=true) {a:Nat} {p:Pl} (hp:ps[a]?=N p)
include hg ng hok hp
end
end
section
open Go.RowKit Go.Shelf Go.Sort Go.Lib Go.Maps
def Sm(d q:Int×Int):Int×Int:=(q.1+d.1,q.2+d.2)
def jv(d:Int×Int)(l:LP):LP:=l.map (Sm d)
end
section
open Go.RowKit Go.Shelf Go.Sort
def Oz p q:1<=Dc p q/\Dc p q<=5:=by
 unfold Dc
 repeat' split
 all_goals omega
def Bg{α:Type}(f:α->Rat):List α->Rat
 | []=>0
 | x::xs=>xs.foldl (fun o y=>if yb (f y) o<0 then f y else o) (f x)
def Xq{α} f:∀{l:List α},l≠[]->(∃x∈l,Bg f l=f x)/\∀x∈l,Bg f l<=f x
 | [],h=>absurd rfl h
 | x::xs,_=>by
  have key:∀(e:List α)(o:Rat),(e.foldl (fun o y=>if yb (f y) o<0 then f y else o) o=o\/∃y∈e,e.foldl (fun o y=>if yb (f y) o<0 then f y else o) o=f y)/\e.foldl (fun o y=>if yb (f y) o<0 then f y else o) o<=o/\∀y∈e,e.foldl (fun o y=>if yb (f y) o<0 then f y else o) o<=f y:=by
   intro e;induction e with
   | nil=>intro o;exact⟨.inl rfl,Rat.le_refl,fun y m=>by cases m⟩
   | cons y e k =>
    intro o;rw[List.foldl_cons];by_cases c:yb (f y) o<0
    ·rw[if_pos c];have hc:=(Kr _ _).1 c;obtain⟨b,i,j⟩:=k (f y);refine⟨.inr ?_,Rat.le_trans i (Rat.le_of_lt hc),fun z d=>?_⟩
     ·rcases b with b|⟨z,d,b⟩
      ·exact⟨y,by simp,b⟩
      ·exact⟨z,mC _ d,b⟩
     ·rcases List.mem_cons.1 d with rfl|d
      ·exact i
      ·exact j z d
    ·rw[if_neg c];have hc:o<=f y:=Rat.not_lt.1 fun h=>c ((Kr _ _).2 h);obtain⟨b,i,j⟩:=k o;refine⟨?_,i,fun z d=>?_⟩
     ·rcases b with b|⟨z,d,b⟩
      ·exact .inl b
      ·exact .inr ⟨z,mC _ d,b⟩
     ·rcases List.mem_cons.1 d with rfl|d
      ·exact Rat.le_trans i hc
      ·exact j z d
  obtain⟨b,i,j⟩:=key xs (f x);refine⟨?_,fun z d=>?_⟩
  ·rcases b with b|⟨z,d,b⟩
   ·exact⟨x,by simp,b⟩
   ·exact⟨z,mC _ d,b⟩
  ·rcases List.mem_cons.1 d with rfl|d
   ·exact i
   ·exact j z d
def Yf(l t:LP):Rat:=(Na (Ac l t)).2
def ke(g:LP)(ps:List Pl)(p:Pl):List LP:=g::(ps.filter fun o=>ve p o&&Dc p o==3).map La
def og(g:LP)(ps:List Pl)(p:Pl):Rat:=Bg (Yf (Da p)) (ke g ps p)
def NC{l t}(h:(Ac l t).lo<(Ac l t).hi):ye l t=true ↔ 0<=Yf l t:=by unfold ye Yf;rw[if_pos h,decide_eq_true_eq];exact⟨yI,fun h=>Int.sign_nonneg_iff.2 (Rat.num_nonneg.2 h)⟩
section
variable {p o:Pl} (hp:Ca p=true) (ho:Ca o=true)
include hp ho
theorem PJ(c:¬qb (Da p)<=Ua (Da o))(d:¬qb (Da o)<=Ua (Da p)):(Ac (Da p) (La o)).lo<(Ac (Da p) (La o)).hi:=by have a:=Un hp;have b:=Un ho;unfold Ac;dsimp only;omega
theorem mD(h:Dc p o=3):(Ac (Da p) (La o)).lo<(Ac (Da p) (La o)).hi/\0<=Yf (Da p) (La o):=by
 unfold Dc at h;split at h
 ·omega
 ·rename_i h1;split at h
  ·omega
  ·rename_i h2;have b:=PJ hp ho h1 h2;split at h
   ·rename_i h3;exact⟨b,(NC b).1 h3⟩
   ·split at h<;>omega
end
def pg(g:LP)(ps:List Pl)(p:Pl):Int:=(og g ps p).floor
set_option linter.unusedSectionVars false
section
variable {g:LP} {ps:List Pl} {p:Pl} (h0:Rc g ps=0) (hp:Ca p=true) (hh:Pe g p=true) (hc:Ce g ps p=true)
include h0 hp hh hc
theorem Ww:(Ac (Da p) g).lo<(Ac (Da p) g).hi:=by have a:=Un hp;unfold Pe at hh;simp only[Bool.and_eq_true,decide_eq_true_eq]at hh;unfold Ac;dsimp only;omega
theorem MD:∀t∈ke g ps p,0<=Yf (Da p) t:=by
 intro t c;unfold ke at c;rcases List.mem_cons.1 c with rfl|c
 ·refine(NC (Ww h0 hp hh hc)).1 ?_;unfold Ce at hc;rw[Bool.and_eq_true]at hc;exact hc.1
 ·obtain⟨o,ho,rfl⟩:=List.mem_map.1 c;obtain⟨d,b⟩:=List.mem_filter.1 ho;rw[Bool.and_eq_true,beq_iff_eq]at b;exact(mD hp ((Ku h0).1 o d) b.2).2
theorem kJ:0<=pg g ps p:=by unfold pg;rw[Rat.le_floor_iff];obtain⟨⟨t,b,e⟩,_⟩:=Xq (Yf (Da p)) (l:=ke g ps p) (by unfold ke;simp);unfold og;rw[e,Rat.intCast_zero];exact MD h0 hp hh hc t b
end
def Yh:(0:Rat)<1/2:=by decide +kernel
