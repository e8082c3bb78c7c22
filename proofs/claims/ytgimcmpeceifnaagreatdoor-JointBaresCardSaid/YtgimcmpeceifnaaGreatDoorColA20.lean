import Derived.Test.YtgimcmpeceifnaaGreatDoorColA19
import Derived.Test.YtgimcmpeceifnaaGreatDoorColA18
import Derived.Maps.GroupsBeside
import Derived.Maps.Views
set_option maxRecDepth 1000000
set_option maxHeartbeats 16000000
set_option linter.all false
open Go.IntKind renaming i64->O
open Go.Value renaming int->Y,slice->Z,bool->C,agg->P,pointer->S
open Go renaming World->X,Value->J
open Option renaming none->V,some->I
open Go.Obj renaming cells->G
namespace Go.Proofs.YtgimcmpeceifnaaGreatDoor.Cop
section
open Go.RowKit Go.Shelf Go.Sort
attribute [local go_sem] Oper.semAt_some
def jS(w:X)(nm:ByteArray)(v:J)(l:LP)(d de gx gz:Int)(h:Ab w v l)(ar:nm.size<=1000000):Calls Tryz.prog 92 #[P #[.string nm,v,Y O d,Y O de,Y O gx,Y O gz]] w fun e w'=>e=.returned (C (vd (Ee nm) l d de gx gz))/\Ba w w':=by
 obtain⟨a,c,rfl⟩:=h.form;obtain⟨n,hn⟩:=gX l.length;have HN:=Aa (fun W=>AR W nm ar);have HP:=Aa (fun W (hW:Ba w W)=>ZS W _ l (h.f hW));have HD:=Aa (fun W=>Xq W d 1 2000);have HE:=Aa (fun W=>Xq W de 1 10000);have HX:=Aa (fun W=>Xq W gx (-100) 100);have HZ:=Aa (fun W=>Xq W gz (-100) 100);obtain⟨cb,ap⟩:=gX (vd (Ee nm) l d de gx gz);rw[ap];unfold vd Kd at ap;rw[<-pC,<-CH]at ap;obtain⟨nb,e1⟩:=gX (yk nm);obtain⟨pb,e2⟩:=gX (Eh l);obtain⟨bd,e3⟩:=gX (Ra d 1 2000);obtain⟨be,e4⟩:=gX (Ra de 1 10000);obtain⟨bx,e5⟩:=gX (Ra gx (-100) 100);obtain⟨bz,e6⟩:=gX (Ra gz (-100) 100);obtain⟨zx,e7⟩:=gX ((gx==0));obtain⟨zz,e8⟩:=gX ((gz==0));have e9:(gx != 0)=!zx:=by rw[<-e7];rfl
 have aq:(gz != 0)=!zz:=by rw[<-e8];rfl
 rw[e1,e2,e3,e4,e5,e6,e7,e8]at ap;rw[e1]at HN;rw[hn,e2]at HP;rw[e3]at HD;rw[e4]at HE;rw[e5]at HX;rw[e6]at HZ;rw[hn];have ac:=Aa ap;clear e1 e2 e3 e4 e5 e6 e7 e8 ap h hn ar;cases nb with
 |false=>
  have e:=ac.o;simp only[Bool.false_and]at e;subst e;go_in;go_wp2_with(first|(go_at_call 128;refine cM (HN.o _) ?_;rintro e q ⟨rfl,b⟩;obtain⟨⟨ad,aj⟩,r,s⟩:=Mb w b;(have X1:Ba w q:=eA))|(go_at_call 129;refine cM (HP.o q X1) ?_;rintro e w2 ⟨rfl,f⟩;obtain⟨⟨ae,ak⟩,t,u⟩:=Mb w f)|(go_at_call 130;(with_reducible refine(HD.o w2).mono ?_);rintro e w3 ⟨rfl,i⟩;obtain⟨⟨af,al⟩,x,y⟩:=Mb w i)|(go_at_call 130;(with_reducible refine(HE.o w3).mono ?_);rintro e w4 ⟨rfl,j⟩;obtain⟨⟨ag,am⟩,z,K⟩:=Mb w j)|(go_at_call 130;(with_reducible refine(HX.o w4).mono ?_);rintro e w5 ⟨rfl,k⟩;obtain⟨⟨ah,an⟩,L,R⟩:=Mb w k)|(go_at_call 130;(with_reducible refine(HZ.o w5).mono ?_);rintro e w6 ⟨rfl,m⟩;obtain⟨⟨ai,ao⟩,aa,ab⟩:=Mb w m));go_ret;exact⟨rfl,eA⟩
 |true=>
 cases pb with
 |false=>
  have e:=ac.o;simp only[Bool.true_and,Bool.false_and]at e;subst e;go_in;go_wp2_with(first|(go_at_call 128;refine cM (HN.o _) ?_;rintro e q ⟨rfl,b⟩;obtain⟨⟨ad,aj⟩,r,s⟩:=Mb w b;(have X1:Ba w q:=eA))|(go_at_call 129;refine cM (HP.o q X1) ?_;rintro e w2 ⟨rfl,f⟩;obtain⟨⟨ae,ak⟩,t,u⟩:=Mb w f)|(go_at_call 130;(with_reducible refine(HD.o w2).mono ?_);rintro e w3 ⟨rfl,i⟩;obtain⟨⟨af,al⟩,x,y⟩:=Mb w i)|(go_at_call 130;(with_reducible refine(HE.o w3).mono ?_);rintro e w4 ⟨rfl,j⟩;obtain⟨⟨ag,am⟩,z,K⟩:=Mb w j)|(go_at_call 130;(with_reducible refine(HX.o w4).mono ?_);rintro e w5 ⟨rfl,k⟩;obtain⟨⟨ah,an⟩,L,R⟩:=Mb w k)|(go_at_call 130;(with_reducible refine(HZ.o w5).mono ?_);rintro e w6 ⟨rfl,m⟩;obtain⟨⟨ai,ao⟩,aa,ab⟩:=Mb w m));go_ret;exact⟨rfl,eA⟩
 |true=>
 cases bd with
 |false=>
  have e:=ac.o;simp only[Bool.true_and,Bool.false_and]at e;subst e;go_in;go_wp2_with(first|(go_at_call 128;refine cM (HN.o _) ?_;rintro e q ⟨rfl,b⟩;obtain⟨⟨ad,aj⟩,r,s⟩:=Mb w b;(have X1:Ba w q:=eA))|(go_at_call 129;refine cM (HP.o q X1) ?_;rintro e w2 ⟨rfl,f⟩;obtain⟨⟨ae,ak⟩,t,u⟩:=Mb w f)|(go_at_call 130;(with_reducible refine(HD.o w2).mono ?_);rintro e w3 ⟨rfl,i⟩;obtain⟨⟨af,al⟩,x,y⟩:=Mb w i)|(go_at_call 130;(with_reducible refine(HE.o w3).mono ?_);rintro e w4 ⟨rfl,j⟩;obtain⟨⟨ag,am⟩,z,K⟩:=Mb w j)|(go_at_call 130;(with_reducible refine(HX.o w4).mono ?_);rintro e w5 ⟨rfl,k⟩;obtain⟨⟨ah,an⟩,L,R⟩:=Mb w k)|(go_at_call 130;(with_reducible refine(HZ.o w5).mono ?_);rintro e w6 ⟨rfl,m⟩;obtain⟨⟨ai,ao⟩,aa,ab⟩:=Mb w m));go_ret;exact⟨rfl,eA⟩
 |true=>
 cases be with
 |false=>
  have e:=ac.o;simp only[Bool.true_and,Bool.false_and]at e;subst e;go_in;go_wp2_with(first|(go_at_call 128;refine cM (HN.o _) ?_;rintro e q ⟨rfl,b⟩;obtain⟨⟨ad,aj⟩,r,s⟩:=Mb w b;(have X1:Ba w q:=eA))|(go_at_call 129;refine cM (HP.o q X1) ?_;rintro e w2 ⟨rfl,f⟩;obtain⟨⟨ae,ak⟩,t,u⟩:=Mb w f)|(go_at_call 130;(with_reducible refine(HD.o w2).mono ?_);rintro e w3 ⟨rfl,i⟩;obtain⟨⟨af,al⟩,x,y⟩:=Mb w i)|(go_at_call 130;(with_reducible refine(HE.o w3).mono ?_);rintro e w4 ⟨rfl,j⟩;obtain⟨⟨ag,am⟩,z,K⟩:=Mb w j)|(go_at_call 130;(with_reducible refine(HX.o w4).mono ?_);rintro e w5 ⟨rfl,k⟩;obtain⟨⟨ah,an⟩,L,R⟩:=Mb w k)|(go_at_call 130;(with_reducible refine(HZ.o w5).mono ?_);rintro e w6 ⟨rfl,m⟩;obtain⟨⟨ai,ao⟩,aa,ab⟩:=Mb w m));go_ret;exact⟨rfl,eA⟩
 |true=>
 cases zx with
 |false=>
  simp only[Bool.not_false]at e9;cases bx with
  |false=>
   have e:=ac.o;simp at e;subst e;go_in;go_wp2_with(first|(go_at_call 128;refine cM (HN.o _) ?_;rintro e q ⟨rfl,b⟩;obtain⟨⟨ad,aj⟩,r,s⟩:=Mb w b;(have X1:Ba w q:=eA))|(go_at_call 129;refine cM (HP.o q X1) ?_;rintro e w2 ⟨rfl,f⟩;obtain⟨⟨ae,ak⟩,t,u⟩:=Mb w f)|(go_at_call 130;(with_reducible refine(HD.o w2).mono ?_);rintro e w3 ⟨rfl,i⟩;obtain⟨⟨af,al⟩,x,y⟩:=Mb w i)|(go_at_call 130;(with_reducible refine(HE.o w3).mono ?_);rintro e w4 ⟨rfl,j⟩;obtain⟨⟨ag,am⟩,z,K⟩:=Mb w j)|(go_at_call 130;(with_reducible refine(HX.o w4).mono ?_);rintro e w5 ⟨rfl,k⟩;obtain⟨⟨ah,an⟩,L,R⟩:=Mb w k)|(go_at_call 130;(with_reducible refine(HZ.o w5).mono ?_);rintro e w6 ⟨rfl,m⟩;obtain⟨⟨ai,ao⟩,aa,ab⟩:=Mb w m));go_ret;exact⟨rfl,eA⟩
  |true=>
   have e:=ac.o;simp at e;subst e;go_in;go_wp2_with(first|(go_at_call 128;refine cM (HN.o _) ?_;rintro e q ⟨rfl,b⟩;obtain⟨⟨ad,aj⟩,r,s⟩:=Mb w b;(have X1:Ba w q:=eA))|(go_at_call 129;refine cM (HP.o q X1) ?_;rintro e w2 ⟨rfl,f⟩;obtain⟨⟨ae,ak⟩,t,u⟩:=Mb w f)|(go_at_call 130;(with_reducible refine(HD.o w2).mono ?_);rintro e w3 ⟨rfl,i⟩;obtain⟨⟨af,al⟩,x,y⟩:=Mb w i)|(go_at_call 130;(with_reducible refine(HE.o w3).mono ?_);rintro e w4 ⟨rfl,j⟩;obtain⟨⟨ag,am⟩,z,K⟩:=Mb w j)|(go_at_call 130;(with_reducible refine(HX.o w4).mono ?_);rintro e w5 ⟨rfl,k⟩;obtain⟨⟨ah,an⟩,L,R⟩:=Mb w k)|(go_at_call 130;(with_reducible refine(HZ.o w5).mono ?_);rintro e w6 ⟨rfl,m⟩;obtain⟨⟨ai,ao⟩,aa,ab⟩:=Mb w m));go_ret;exact⟨rfl,eA⟩
 |true=>
  simp only[Bool.not_true]at e9;cases zz with
  |true=>
   simp only[Bool.not_true]at aq;have e:=ac.o;simp at e;subst e;go_in;go_wp2_with(first|(go_at_call 128;refine cM (HN.o _) ?_;rintro e q ⟨rfl,b⟩;obtain⟨⟨ad,aj⟩,r,s⟩:=Mb w b;(have X1:Ba w q:=eA))|(go_at_call 129;refine cM (HP.o q X1) ?_;rintro e w2 ⟨rfl,f⟩;obtain⟨⟨ae,ak⟩,t,u⟩:=Mb w f)|(go_at_call 130;(with_reducible refine(HD.o w2).mono ?_);rintro e w3 ⟨rfl,i⟩;obtain⟨⟨af,al⟩,x,y⟩:=Mb w i)|(go_at_call 130;(with_reducible refine(HE.o w3).mono ?_);rintro e w4 ⟨rfl,j⟩;obtain⟨⟨ag,am⟩,z,K⟩:=Mb w j)|(go_at_call 130;(with_reducible refine(HX.o w4).mono ?_);rintro e w5 ⟨rfl,k⟩;obtain⟨⟨ah,an⟩,L,R⟩:=Mb w k)|(go_at_call 130;(with_reducible refine(HZ.o w5).mono ?_);rintro e w6 ⟨rfl,m⟩;obtain⟨⟨ai,ao⟩,aa,ab⟩:=Mb w m));go_ret;exact⟨rfl,eA⟩
  |false=>
   simp only[Bool.not_false]at aq;cases bx with
   |false=>
    have e:=ac.o;simp at e;subst e;go_in;go_wp2_with(first|(go_at_call 128;refine cM (HN.o _) ?_;rintro e q ⟨rfl,b⟩;obtain⟨⟨ad,aj⟩,r,s⟩:=Mb w b;(have X1:Ba w q:=eA))|(go_at_call 129;refine cM (HP.o q X1) ?_;rintro e w2 ⟨rfl,f⟩;obtain⟨⟨ae,ak⟩,t,u⟩:=Mb w f)|(go_at_call 130;(with_reducible refine(HD.o w2).mono ?_);rintro e w3 ⟨rfl,i⟩;obtain⟨⟨af,al⟩,x,y⟩:=Mb w i)|(go_at_call 130;(with_reducible refine(HE.o w3).mono ?_);rintro e w4 ⟨rfl,j⟩;obtain⟨⟨ag,am⟩,z,K⟩:=Mb w j)|(go_at_call 130;(with_reducible refine(HX.o w4).mono ?_);rintro e w5 ⟨rfl,k⟩;obtain⟨⟨ah,an⟩,L,R⟩:=Mb w k)|(go_at_call 130;(with_reducible refine(HZ.o w5).mono ?_);rintro e w6 ⟨rfl,m⟩;obtain⟨⟨ai,ao⟩,aa,ab⟩:=Mb w m));go_ret;exact⟨rfl,eA⟩
   |true=>
    have e:=ac.o;simp at e;subst e;go_in;go_wp2_with(first|(go_at_call 128;refine cM (HN.o _) ?_;rintro e q ⟨rfl,b⟩;obtain⟨⟨ad,aj⟩,r,s⟩:=Mb w b;(have X1:Ba w q:=eA))|(go_at_call 129;refine cM (HP.o q X1) ?_;rintro e w2 ⟨rfl,f⟩;obtain⟨⟨ae,ak⟩,t,u⟩:=Mb w f)|(go_at_call 130;(with_reducible refine(HD.o w2).mono ?_);rintro e w3 ⟨rfl,i⟩;obtain⟨⟨af,al⟩,x,y⟩:=Mb w i)|(go_at_call 130;(with_reducible refine(HE.o w3).mono ?_);rintro e w4 ⟨rfl,j⟩;obtain⟨⟨ag,am⟩,z,K⟩:=Mb w j)|(go_at_call 130;(with_reducible refine(HX.o w4).mono ?_);rintro e w5 ⟨rfl,k⟩;obtain⟨⟨ah,an⟩,L,R⟩:=Mb w k)|(go_at_call 130;(with_reducible refine(HZ.o w5).mono ?_);rintro e w6 ⟨rfl,m⟩;obtain⟨⟨ai,ao⟩,aa,ab⟩:=Mb w m));go_ret;exact⟨rfl,eA⟩
def Ov(w:X)(n:Int):Calls Tryz.prog 91 #[Y O n] w fun e d=>e=.returned (C (!Uc n))/\Ba w d:=by
 have c:(!Uc n)=(decide (-100000<=n)&&decide (n<=100000)):=by
  unfold Uc;rw[Bool.eq_iff_iff];simp
 rw[c];clear c;by_cases h:-100000<=n
 ·have b:decide (-100000<=n)=true:=by simpa using h
  go_in;go_wp2;go_ret;exact⟨by simp[b],eA⟩
 ·have b:decide (-100000<=n)=false:=by simpa using h
  go_in;go_wp2;go_ret;exact⟨by simp[b],eA⟩
def TL(w:X)(v:J)(p:Pl)(h:Ab w v p.shape)(aa:p.name.size<=1000000):Calls Tryz.prog 57 #[P (Dd p v)] w fun e w'=>e=.returned (C (Ia p))/\Ba w w':=by
 obtain⟨nm,l,d,de,gx,gz,wy,ax,az,sk⟩:=p;dsimp only at h aa;obtain⟨a,c,rfl⟩:=h.form;obtain⟨n,hn⟩:=gX l.length;have hV:=fun W (hW:Ba w W)=>jS W nm _ l d de gx gz (h.f hW) aa;have hX:=fun W=>Ov W ax;have hZ:=fun W=>Ov W az;obtain⟨cb,x⟩:=gX (Ia ⟨nm,l,d,de,gx,gz,wy,ax,az,sk⟩);rw[x];unfold Ia Ra at x;dsimp only at x;obtain⟨vb,e1⟩:=gX (vd (Ee nm) l d de gx gz);obtain⟨bx,e2⟩:=gX ((!Uc ax));obtain⟨bz,e3⟩:=gX ((!Uc az));rw[e1,e2,e3]at x;rw[e1]at hV;rw[e2]at hX;rw[e3]at hZ;have r:=Aa x;have HV:=Aa hV;have HX:=Aa hX;have R:=Aa hZ;clear e1 e2 e3 x hV hX hZ h aa;unfold Dd;dsimp only;rw[hn]at HV ⊢;clear hn;cases vb with
 |false=>
  have e:=r.o;simp at e;subst e;go_in;go_wp2_with(first|(go_at_call 92;refine cM (HV.o _ eA) ?_;rintro e j ⟨rfl,b⟩;obtain⟨⟨s,y⟩,k⟩:=Id w b;(have X1:Ba w j:=eA))|(go_at_call 91;(with_reducible refine(HX.o j).mono ?_);rintro e L ⟨rfl,f⟩;obtain⟨⟨t,z⟩,m⟩:=Id w f)|(go_at_call 91;(with_reducible refine(R.o L).mono ?_);rintro e w3 ⟨rfl,i⟩;obtain⟨⟨u,K⟩,q⟩:=Id w i));go_ret;exact⟨rfl,eA⟩
 |true=>
 by_cases w0:0<=wy
 case neg =>
  have e:cb=false:=by rw[<-r.o];simp[w0]
  subst e;go_in;go_wp2_with(first|(go_at_call 92;refine cM (HV.o _ eA) ?_;rintro e j ⟨rfl,b⟩;obtain⟨⟨s,y⟩,k⟩:=Id w b;(have X1:Ba w j:=eA))|(go_at_call 91;(with_reducible refine(HX.o j).mono ?_);rintro e L ⟨rfl,f⟩;obtain⟨⟨t,z⟩,m⟩:=Id w f)|(go_at_call 91;(with_reducible refine(R.o L).mono ?_);rintro e w3 ⟨rfl,i⟩;obtain⟨⟨u,K⟩,q⟩:=Id w i));go_ret;exact⟨rfl,eA⟩
 by_cases j:wy<=7
 case neg =>
  have e:cb=false:=by rw[<-r.o];simp[j]
  subst e;go_in;go_wp2_with(first|(go_at_call 92;refine cM (HV.o _ eA) ?_;rintro e j ⟨rfl,b⟩;obtain⟨⟨s,y⟩,k⟩:=Id w b;(have X1:Ba w j:=eA))|(go_at_call 91;(with_reducible refine(HX.o j).mono ?_);rintro e L ⟨rfl,f⟩;obtain⟨⟨t,z⟩,m⟩:=Id w f)|(go_at_call 91;(with_reducible refine(R.o L).mono ?_);rintro e w3 ⟨rfl,i⟩;obtain⟨⟨u,K⟩,q⟩:=Id w i));go_ret;exact⟨rfl,eA⟩
 cases bx with
 |false=>
  have e:cb=false:=by rw[<-r.o];simp
  subst e;go_in;go_wp2_with(first|(go_at_call 92;refine cM (HV.o _ eA) ?_;rintro e j ⟨rfl,b⟩;obtain⟨⟨s,y⟩,k⟩:=Id w b;(have X1:Ba w j:=eA))|(go_at_call 91;(with_reducible refine(HX.o j).mono ?_);rintro e L ⟨rfl,f⟩;obtain⟨⟨t,z⟩,m⟩:=Id w f)|(go_at_call 91;(with_reducible refine(R.o L).mono ?_);rintro e w3 ⟨rfl,i⟩;obtain⟨⟨u,K⟩,q⟩:=Id w i));go_ret;exact⟨rfl,eA⟩
 |true=>
 cases bz with
 |false=>
  have e:cb=false:=by rw[<-r.o];simp
  subst e;go_in;go_wp2_with(first|(go_at_call 92;refine cM (HV.o _ eA) ?_;rintro e j ⟨rfl,b⟩;obtain⟨⟨s,y⟩,k⟩:=Id w b;(have X1:Ba w j:=eA))|(go_at_call 91;(with_reducible refine(HX.o j).mono ?_);rintro e L ⟨rfl,f⟩;obtain⟨⟨t,z⟩,m⟩:=Id w f)|(go_at_call 91;(with_reducible refine(R.o L).mono ?_);rintro e w3 ⟨rfl,i⟩;obtain⟨⟨u,K⟩,q⟩:=Id w i));go_ret;exact⟨rfl,eA⟩
 |true=>
 by_cases s0:1<=sk
 case neg =>
  have e:cb=false:=by rw[<-r.o];simp[s0]
  subst e;go_in;go_wp2_with(first|(go_at_call 92;refine cM (HV.o _ eA) ?_;rintro e j ⟨rfl,b⟩;obtain⟨⟨s,y⟩,k⟩:=Id w b;(have X1:Ba w j:=eA))|(go_at_call 91;(with_reducible refine(HX.o j).mono ?_);rintro e L ⟨rfl,f⟩;obtain⟨⟨t,z⟩,m⟩:=Id w f)|(go_at_call 91;(with_reducible refine(R.o L).mono ?_);rintro e w3 ⟨rfl,i⟩;obtain⟨⟨u,K⟩,q⟩:=Id w i));go_ret;exact⟨rfl,eA⟩
 have e:cb=decide (sk<=3):=by rw[<-r.o];simp[w0,j,s0]
 subst e;go_in;go_wp2_with(first|(go_at_call 92;refine cM (HV.o _ eA) ?_;rintro e j ⟨rfl,b⟩;obtain⟨⟨s,y⟩,k⟩:=Id w b;(have X1:Ba w j:=eA))|(go_at_call 91;(with_reducible refine(HX.o j).mono ?_);rintro e L ⟨rfl,f⟩;obtain⟨⟨t,z⟩,m⟩:=Id w f)|(go_at_call 91;(with_reducible refine(R.o L).mono ?_);rintro e w3 ⟨rfl,i⟩;obtain⟨⟨u,K⟩,q⟩:=Id w i));go_ret;exact⟨rfl,eA⟩
def uu(w:X)(b:Int×Int)(m:Nat)(t5:J)(W:X):Prop:=
 ∃i:Nat,t5=Y O i/\i<=m/\Ba w W/\W.heap[w.heap.size]?=I (G #[Y O (Af i b).1,Y O (Af i b).2] 74 (0,0))/\W.heap[w.heap.size+1]?=I (G #[Y O 0,Y O 0] 74 (0,0))
def Ku{p:Int×Int}(h:Bd 1000000 p.1/\Bd 1000000 p.2):∀i,Bd 1000000 (Af i p).1/\Bd 1000000 (Af i p).2
 | 0=>h
 | i+1=>by
  have b:=Ku h i;have e:Af (i+1) p=(-(Af i p).2,(Af i p).1):=rfl;rw[e];unfold Bd at *;dsimp only;omega
def UA{p:Int×Int}(h:Bd 1000000 p.1/\Bd 1000000 p.2)(way:Int):Bd 1000000 (Df way p).1/\Bd 1000000 (Df way p).2:=by
 unfold Df;refine Ku ?_ _;split
 ·unfold Bd at *;dsimp only;omega
 ·exact h
def FD(w:X)(p:Int×Int)(way:Int)(h0:0<=way)(h1:way<=7)(hB:Bd 1000000 p.1/\Bd 1000000 p.2):Calls Tryz.prog 150 #[P #[Y O p.1,Y O p.2],Y O way] w fun e W=>e=.returned (P #[Y O (Df way p).1,Y O (Df way p).2])/\Ba w W:=by
 obtain⟨x,z⟩:=p;dsimp only at hB ⊢;obtain⟨R,f⟩:=hB;obtain⟨m,hm⟩:=gX ((way%4).toNat);have ai:Int.tmod way 4=(m:Int):=by rw[Int.tmod_eq_emod_of_nonneg h0];omega
 have aj:m<=3:=oM;have Hm:=Aa hm;clear hm;have q:4<=way->Calls Tryz.prog 150 #[P #[Y O x,Y O z],Y O way] w fun e W=>e=.returned (P #[Y O (Df way (x,z)).1,Y O (Df way (x,z)).2])/\Ba w W:=by
  intro hg;have j:Df way (x,z)=Af m (-x,z):=by unfold Df;rw[Hm.o];simp[hg]
  have d:=Ku (p:=(-x,z)) ⟨by unfold Bd at *;dsimp only;omega,f⟩;rw[j];have n:=Aa d;clear j d;unfold Bd at R f;go_in;go_wp2;go_loopw [5] (uu w (-x,z) m) (fun t5 _=>m-(intOf t5).toNat)
  case atStart =>
   refine⟨0,rfl,by omega,eA,?_,?_⟩
   ·first|exact Ei .. | exact vk (Ei ..) _ _
   ·exact kc _ _ _ sM
  case round =>
   obtain⟨i,rfl,hi,hx,b,c⟩:=hrel;obtain⟨⟨y,K⟩,t⟩:∃r,Af i (-x,z)=r:=⟨_,rfl⟩;have d:=n.o i;rw[t]at b d;unfold Bd at d;dsimp only at b d;have r0:=Da b (i:=0) (u:=Y O y) rfl;have r1:=Da b (i:=1) (u:=Y O K) rfl;have ad:=Za b 0;have ae:=Za b 1;have s0:=Da c (i:=0) (u:=Y O 0) rfl;have s1:=Da c (i:=1) (u:=Y O 0) rfl;have ag:=Za c 0;have ah:=Za c 1;have sz:=Ya c;have af:=Ya b;have k:=Aa b;have l:=Aa c;have L:=Aa t;obtain⟨ab,ac⟩:=d;clear b c t;by_cases aa:i<m
   ·have g1:(i:Int)<(m:Int):=oM;go_wp2;go_roundw
    case rel =>
     (have j:Af (i+1) (-x,z)=(-K,y):=by rw[Af,L.o]);refine⟨i+1,by go_num,by omega,eA,?_,?_⟩
     ·rw[j];exact vk k.o _ _
     ·exact Vp l.o oM _ _
    case measure=>simp[intOf];omega
   ·obtain rfl:i=m:=oM;have g1:¬(i:Int)<(i:Int):=oM;go_wp2;exact bR (v:=P #[Y O y,Y O K]) (by simp[results,Tryz.results150,go_sem,s0,s1,sz]) rfl ⟨Uj (by rw[L.o]),eA⟩
 have s:¬4<=way->Calls Tryz.prog 150 #[P #[Y O x,Y O z],Y O way] w fun e W=>e=.returned (P #[Y O (Df way (x,z)).1,Y O (Df way (x,z)).2])/\Ba w W:=by
  intro hg;have j:Df way (x,z)=Af m (x,z):=by unfold Df;rw[Hm.o];simp[hg]
  have d:=Ku (p:=(x,z)) ⟨by unfold Bd at *;dsimp only;omega,f⟩;rw[j];have n:=Aa d;clear j d;unfold Bd at R f;go_in;go_wp2;go_loopw [5] (uu w (x,z) m) (fun t5 _=>m-(intOf t5).toNat)
  case atStart =>
   refine⟨0,rfl,by omega,eA,?_,?_⟩
   ·first|exact Ei .. | exact vk (Ei ..) _ _
   ·exact kc _ _ _ sM
  case round =>
   obtain⟨i,rfl,hi,hx,b,c⟩:=hrel;obtain⟨⟨y,K⟩,t⟩:∃r,Af i (x,z)=r:=⟨_,rfl⟩;have d:=n.o i;rw[t]at b d;unfold Bd at d;dsimp only at b d;have r0:=Da b (i:=0) (u:=Y O y) rfl;have r1:=Da b (i:=1) (u:=Y O K) rfl;have ad:=Za b 0;have ae:=Za b 1;have s0:=Da c (i:=0) (u:=Y O 0) rfl;have s1:=Da c (i:=1) (u:=Y O 0) rfl;have ag:=Za c 0;have ah:=Za c 1;have sz:=Ya c;have af:=Ya b;have k:=Aa b;have l:=Aa c;have L:=Aa t;obtain⟨ab,ac⟩:=d;clear b c t;by_cases aa:i<m
   ·have g1:(i:Int)<(m:Int):=oM;go_wp2;go_roundw
    case rel =>
     (have j:Af (i+1) (x,z)=(-K,y):=by rw[Af,L.o]);refine⟨i+1,by go_num,by omega,eA,?_,?_⟩
     ·rw[j];exact vk k.o _ _
     ·exact Vp l.o oM _ _
    case measure=>simp[intOf];omega
   ·obtain rfl:i=m:=oM;have g1:¬(i:Int)<(i:Int):=oM;go_wp2;exact bR (v:=P #[Y O y,Y O K]) (by simp[results,Tryz.results150,go_sem,s0,s1,sz]) rfl ⟨Uj (by rw[L.o]),eA⟩
 by_cases hg:4<=way
 ·exact q hg
 ·exact s hg
def Xr:(Tryz.prog.info? 74).map (fun i=>(i.zero,i.size,i.bytes))=I (I (P #[Y O 0,Y O 0]),2,16):=kM
def Fa.pr{w:X}{base:Nat}{v:J}{b:LP}(h:Fa 74 2 w base v (b.map pc)):Ab w v b:=
 ⟨_,Fa.sl h sM (fun i c x hc d=>by
  rw[lP,d]at hc;cases hc;rfl)⟩
def Ni(w:X)(b:LP)(e:Ending)(w':X):Prop:=∃v,e=.returned v/\Fa 74 2 w' w.heap.size v (b.map pc)/\Ba w w'
def xy{α:Type}(f:Nat->α)(i:Nat):(List.range (i+1)).map f=(List.range i).map f++[f i]:=by rw[List.range_succ,List.map_append];rfl
def Vr(W:X)(x z:Int):∀(j:Nat) u,[pc (x,z)].flatten[j]?=I u->(W.alloc (Obj.cells #[Value.int O (x),Value.int O (z)] 74)).cell? ((⟨W.heap.size,0,V⟩:Addr).add j)=I u:=Zw W x z _
def mU(d:X)(b:Nat)(m:Int×Int)(f:Nat->Int×Int)(n:Nat)(t3 c:J)(W:X):Prop:=
 ∃i:Nat,c=Y O i/\i<=n/\Fa 74 2 W (b+1) t3 (((List.range i).map f).map pc)/\Ba d W/\W.heap[b]?=I (Obj.cells #[Value.int O (m.1),Value.int O (m.2)] 74 (0,0))
def yS(w:X)(v:J)(l:LP)(h:Ab w v l)(hB:∀q∈l,Bd 1000000 q.1/\Bd 1000000 q.2)(ab:l≠[])(hl:l.length<=1000000):Calls Tryz.prog 151 #[v] w (Ni w (Zg l)):=by
 obtain⟨a,c,rfl⟩:=h.form;obtain⟨n,hn⟩:=gX l.length;have an:0<n:=by rw[<-hn];exact List.length_pos_iff.2 ab
 have f:=fun W (hW:Ba w W)=>ED W _ l (h.f hW) ab;have s:=fun W (hW:Ba w W)=>yF W _ l (h.f hW);have al:Tc l n<n:=by
  rw[<-hn];have e:=Kx l (n-1) oM;rw[show n-1+1=n by omega]at e;rw[hn];exact e.1
 have y:Bd 1000000 (Ua l).1/\Bd 1000000 (Ua l).2:=by
  rw[<-ux ab];have:∀i,i<=l.length->Bd 1000000 (Ui l i).1/\Bd 1000000 (Ui l i).2:=by
   intro i;induction i with
   | zero=>intro _;exact hB _ (Ti oM)
   | succ i ih =>
    intro hi;have h1:=ih oM;have h2:=hB _ (Ti (l:=l) (i:=i) oM);have e:Ui l (i+1)=(min (Ui l i).1 (Pa l i).1,min (Ui l i).2 (Pa l i).2):=rfl;rw[e];unfold Bd at *;dsimp only;omega
  exact this _ (nE _)
 have L:Zg l=(List.range n).map fun i=>((Pa l ((Tc l n+i)%n)).1-(Ua l).1,(Pa l ((Tc l n+i)%n)).2-(Ua l).2):=by unfold Zg;rw[hn]
 rw[L];rw[hn]at f s hl ⊢;obtain⟨⟨R,mz⟩,hm⟩:∃m,Ua l=m:=⟨_,rfl⟩;obtain⟨f0,ae⟩:=gX (Tc l n);rw[hm]at f y ⊢;rw[ae]at s al ⊢;dsimp only at f y ⊢;obtain⟨F,hF⟩:∃F:Nat->Int×Int,(fun i=>((Pa l ((f0+i)%n)).1-R,(Pa l ((f0+i)%n)).2-mz))=F:=⟨_,rfl⟩;rw[hF];have HF:=Aa hF;have ak:=Aa f;have aj:=Aa s;have Hn:=Aa hn;have H:=Aa h;have HB:=Aa hB;unfold Bd at y;obtain⟨ay,az⟩:=y;clear f s hn h hB L hm ae hF;go_in;go_wp2_with(first|(go_at_call 172;refine cM (ak.o _ (eR _)) ?_;rintro e w1 ⟨rfl,ah⟩)|(go_at_call 173;refine cM (aj.o _ ah) ?_;rintro e w2 ⟨rfl,ao⟩));have X2:Ba w w2:=ah.trans ao;go_loopw [3,6] (mU w2 w2.heap.size (R,mz) F n) (fun _ t6 _=>n-(intOf t6).toNat)
 case atStart=>exact⟨0,rfl,by omega,Fa.nil _ _ _ _,(eR _).alloc _,aN _ _⟩
 case round =>
  obtain⟨g4,am⟩:=gX w2.heap.size;rw[am]at hrel ⊢;obtain⟨i,rfl,hi,j,hx,hb⟩:=hrel;have p0:=Da hb (i:=0) (u:=Y O R) rfl;have p1:=Da hb (i:=1) (u:=Y O mz) rfl;have pz:=Ya hb;have Hb:=Aa hb;have XW:Ba w wr:=X2.trans hx;obtain⟨va,vn,vc,rfl⟩:=j.i;have d:=Aa j;have aB:=X2.size;clear hb j;by_cases ax:i<n
  ·obtain⟨k,hk⟩:=gX ((f0+i)%n);have af:k<n:=by rw[<-hk];exact Nat.mod_lt _ an
   have aw:Int.tmod ((f0:Int)+(i:Int)) (n:Int)=(k:Int):=by rw[Int.tmod_eq_emod_of_nonneg oM,<-hk,Int.natCast_emod];rfl
   obtain⟨b,o,rfl,av,c0,c1⟩:=(H.o.f XW).pt (i:=k) (by rw[Hn.o];exact af);have bk:=HB.o _ (Ti (l:=l) (i:=k) (by rw[Hn.o];exact af));have r:F i=((Pa l k).1-R,(Pa l k).2-mz):=by rw[<-HF.o,<-hk]
   obtain⟨⟨x,z⟩,hq⟩:∃q,Pa l k=q:=⟨_,rfl⟩;rw[hq]at c0 c1 bk r;unfold Bd at bk;dsimp only at c0 c1 bk r;obtain⟨ar,au⟩:=bk;have ai:=Aa r;have g0:(0:Int)<=(k:Int):=oM;have g1:(k:Int)<(n:Int):=oM;have g2:(i:Int)<(n:Int):=oM;have aA:¬(n:Int)=0:=oM;have aq:¬n=0:=oM;clear hk hq r;go_wp2_with(at_builtin;refine Mi (T:=74) (t:=22) (z:=P #[Y O 0,Y O 0]) (k:=2) (bytes:=16) (base:=g4+1) (v:=Z va vn vc) (m:=1) (c:=1) (ad:=⟨wr.heap.size+1,0,V⟩) Xr rfl dM dM Tryz.underlying22 rfl _ _ rfl rfl (d.o.ext (((eR wr).alloc _).alloc _)) rfl [pc (x-R,z-mz)] rfl (by simp[pc]) (by simpa using Vr (wr.alloc (Obj.cells #[Value.int O (x),Value.int O (z)] 74)) (x-R) (z-mz)) (Fp (x-R) (z-mz)) (by rw[lL,lL,List.length_range];omega) (by simp only[wZ];omega) ?_;intro v' w5 ac aa ap);go_roundw
   case rel =>
    have ag:=d.o.lt;have K:Below (g4+1) wr w5:=((Below.refl _ wr).alloc oM (Obj.cells #[Value.int O (x),Value.int O (z)] 74) |>.alloc (by simp;omega) (Obj.cells #[Value.int O (x-R),Value.int O (z-mz)] 74)).trans (Yg aa (by simp;omega) (fun k hk=>(ag k hk).1));refine⟨i+1,by go_num,by omega,?_,hx.D K oM,?_⟩
    ·rw[xy,List.map_append,ai.o];exact ac
    ·rw[K.block _ oM];exact Hb.o
   case measure=>simp[intOf];omega
  ·obtain rfl:i=n:=oM;have g2:¬(i:Int)<(i:Int):=oM;go_wp2;go_ret;exact⟨_,rfl,d.o.mono oM,XW⟩
def Tz(w:X)(b c:Obj)(f:Nat->Int×Int)(n:Nat)(t5 d:J)(W:X):Prop:=
 ∃i:Nat,d=Y O i/\i<=n/\Fa 74 2 W (w.heap.size+1+1) t5 (((List.range i).map f).map pc)/\Ba w W/\W.heap[w.heap.size]?=I b/\W.heap[w.heap.size+1]?=I c
def iu(w:X)(f:ByteArray)(d b:Int)(g:Int×Int)(c:LP)(e:Ending)(w':X):Prop:=
 ∃v',e=.returned (P #[.string f,v',Y O d,Y O b,Y O g.1,Y O g.2])/\Fa 74 2 w' w.heap.size v' (c.map pc)/\Ba w w'
def JP(w:X)(nm:ByteArray)(v:J)(l:LP)(d de gx gz way:Int)(h:Ab w v l)(hB:∀q∈l,Bd 1000000 q.1/\Bd 1000000 q.2)(aC:l≠[])(hl:l.length<=1000000)(h0:0<=way)(h1:way<=7)(ax:Bd 1000000 gx)(ay:Bd 1000000 gz):Calls Tryz.prog 110 #[P #[.string nm,v,Y O d,Y O de,Y O gx,Y O gz],Y O way] w (iu w nm d de (Df way (gx,gz)) (tg way l)):=by
 obtain⟨a,c,rfl⟩:=h.form;obtain⟨n,hn⟩:=gX l.length;have aS:0<n:=by rw[<-hn];exact List.length_pos_iff.2 aC
 obtain⟨F,hF⟩:∃F:Nat->Int×Int,(fun i=>Df way (Pa l (if 4<=way then n-1-i else i)))=F:=⟨_,rfl⟩;obtain⟨L,s⟩:=gX ((List.range n).map F);have aj:tg way l=Zg L:=by unfold tg;rw[hn,hF,s]
 have ai:L.length=n:=by rw[<-s];simp
 have aq:∀q∈L,Bd 1000000 q.1/\Bd 1000000 q.2:=by
  rw[<-s];intro q hq;obtain⟨i,hi,rfl⟩:=List.mem_map.1 hq;rw[<-hF];have hi:=List.mem_range.1 hi;refine UA (hB _ (Ti ?_)) _;split<;>omega
 rw[aj];obtain⟨⟨g1,g2⟩,hg⟩:∃g,Df way (gx,gz)=g:=⟨_,rfl⟩;have al:=fun W=>FD W (gx,gz) way h0 h1 ⟨ax,ay⟩;rw[hg]at al ⊢;dsimp only at al;have aG:=Aa al;have HF:=Aa hF;have an:=Aa s;have aL:=Aa aq;have aM:=Aa ai;have Hn:=Aa hn;have H:=Aa h;have HB:=Aa hB;rw[hn]at hl ⊢;have aD:=fun W vv (hv:Ab W vv L)=>yS W vv L hv aq (by intro e;rw[e]at ai;simp at ai;omega) (by rw[ai];exact hl);have aH:=Aa aD;clear hg al hF s aq ai hn h hB aj aD ax ay aC;go_in;go_wp2;go_loopw [5,6] (Tz w (Obj.cells #[Value.string nm,Value.slice a n c,Value.int O d,Value.int O de,Value.int O gx,Value.int O gz] 76) (Obj.cells #[Value.string ⟨#[]⟩,Value.slice V 0 0,Value.int O 0,Value.int O 0,Value.int O 0,Value.int O 0] 76) F n) (fun _ t6 _=>n-(intOf t6).toNat)
 case atStart=>exact⟨0,rfl,by omega,Fa.nil _ _ _ _,eA,Ei ..,kc _ _ _ sM⟩
 case round =>
  obtain⟨i,rfl,hi,ah,hx,hb,ao⟩:=hrel;have p0:=Da hb (i:=0) (u:=.string nm) rfl;have p1:=Da hb (i:=1) (u:=Z a n c) rfl;have p2:=Da hb (i:=2) (u:=Y O d) rfl;have p3:=Da hb (i:=3) (u:=Y O de) rfl;have p4:=Da hb (i:=4) (u:=Y O gx) rfl;have p5:=Da hb (i:=5) (u:=Y O gz) rfl;have pz:=Ya ao;have Hb:=Aa hb;have aa:=Aa ao;obtain⟨va,vn,vc,rfl⟩:=ah.i;have ae:=Aa ah;clear hb ao ah;by_cases aR:i<n
  ·obtain⟨k,hk⟩:=gX ((if 4<=way then n-1-i else i));have az:k<n:=by rw[<-hk];split<;>omega
   obtain⟨b,o,rfl,aO,c0,c1⟩:=(H.o.f hx).pt (i:=k) (by rw[Hn.o];exact az);have bk:=HB.o _ (Ti (l:=l) (i:=k) (by rw[Hn.o];exact az));have ak:F i=Df way (Pa l k):=by rw[<-HF.o,<-hk]
   obtain⟨⟨x,z⟩,hq⟩:∃q,Pa l k=q:=⟨_,rfl⟩;rw[hq]at c0 c1 bk ak;dsimp only at c0 c1 bk;have am:=fun W=>FD W (x,z) way h0 h1 bk;obtain⟨⟨y1,y2⟩,hy⟩:∃y,Df way (x,z)=y:=⟨_,rfl⟩;rw[hy]at am ak;dsimp only at am;have au:=Aa ak;have av:=Aa am;have k0:(0:Int)<=(k:Int):=oM;have k1:(k:Int)<(n:Int):=oM;have k2:(i:Int)<(n:Int):=oM;clear hq ak hy am;by_cases aE:4<=way
   ·(have aQ:(n:Int)-1-(i:Int)=(k:Int):=by rw[<-hk,if_pos aE];omega);clear hk;go_wp2_with(first|(go_at_call 150;refine cM (av.o wr) ?_;rintro e w4 ⟨rfl,ac⟩)|(at_builtin;refine Mi (T:=74) (t:=22) (z:=P #[Y O 0,Y O 0]) (k:=2) (bytes:=16) (base:=w.heap.size+1+1) (v:=Z va vn vc) (m:=1) (c:=1) (ad:=⟨w4.heap.size,0,V⟩) Xr rfl dM dM Tryz.underlying22 rfl _ _ rfl rfl (ae.o.ext (ac.alloc _)) rfl [pc (y1,y2)] rfl (by simp[pc]) (Vr w4 y1 y2) (Fp y1 y2) (by rw[lL,lL,List.length_range];omega) (by have:=ac.size;simp only[wZ];omega) ?_;intro v' w5 ag af aA));go_roundw
    case rel =>
     have R:=ae.o.lt;have aJ:=ac.size;have r:Below (w.heap.size+1+1) wr w5:=((ac.below oM).alloc oM (Obj.cells #[Value.int O (y1),Value.int O (y2)] 74)).trans (Yg af (by simp;omega) (fun k hk=>(R k hk).1));refine⟨i+1,by go_num,by omega,?_,hx.D r oM,?_,?_⟩
     ·rw[xy,List.map_append,au.o];exact ag
     ·rw[r.block _ oM];exact Hb.o
     ·rw[r.block _ oM];exact aa.o
    case measure=>simp[intOf];omega
   ·(obtain rfl:i=k:=by rw[<-hk,if_neg aE]);clear hk;go_wp2_with(first|(go_at_call 150;refine cM (av.o wr) ?_;rintro e w4 ⟨rfl,ac⟩)|(at_builtin;refine Mi (T:=74) (t:=22) (z:=P #[Y O 0,Y O 0]) (k:=2) (bytes:=16) (base:=w.heap.size+1+1) (v:=Z va vn vc) (m:=1) (c:=1) (ad:=⟨w4.heap.size,0,V⟩) Xr rfl dM dM Tryz.underlying22 rfl _ _ rfl rfl (ae.o.ext (ac.alloc _)) rfl [pc (y1,y2)] rfl (by simp[pc]) (Vr w4 y1 y2) (Fp y1 y2) (by rw[lL,lL,List.length_range];omega) (by have:=ac.size;simp only[wZ];omega) ?_;intro v' w5 ag af aA));go_roundw
    case rel =>
     have R:=ae.o.lt;have aJ:=ac.size;have r:Below (w.heap.size+1+1) wr w5:=((ac.below oM).alloc oM (Obj.cells #[Value.int O (y1),Value.int O (y2)] 74)).trans (Yg af (by simp;omega) (fun k hk=>(R k hk).1));refine⟨i+1,by go_num,by omega,?_,hx.D r oM,?_,?_⟩
     ·rw[xy,List.map_append,au.o];exact ag
     ·rw[r.block _ oM];exact Hb.o
     ·rw[r.block _ oM];exact aa.o
    case measure=>simp[intOf];omega
  ·obtain rfl:i=n:=oM;have k2:¬(i:Int)<(i:Int):=oM;have aT:=Za Hb.o 1;have aU:=Za Hb.o 4;have aV:=Za Hb.o 5;have s0:=Da aa.o (i:=0) (u:=.string ⟨#[]⟩) rfl;have s1:=Da aa.o (i:=1) (u:=Z V 0 0) rfl;have s2:=Da aa.o (i:=2) (u:=Y O 0) rfl;have s3:=Da aa.o (i:=3) (u:=Y O 0) rfl;have s4:=Da aa.o (i:=4) (u:=Y O 0) rfl;have s5:=Da aa.o (i:=5) (u:=Y O 0) rfl;have sf:=Za aa.o;have R:Ab wr (Z va vn vc) L:=by rw[<-an.o];exact ae.o.pr
   have aw:=Aa R;have zz:w.heap.size<wr.heap.size:=oM;clear R;go_wp2;refine Ai (fun i=>decide (6<i)) (Ea [(⟨w.heap.size,4,V⟩,Y O gx),(⟨w.heap.size,5,V⟩,Y O gz)]) kM ?_ (fun f=>?_)
   ·exact cA
   refine oo (i:=0) ?_;refine sN 2 ?_
   iterate 3 refine qi ?_
   refine oN ?_;refine kd (i:=1) fun K hK=>?_;go_simp;refine cM (aH.o _ _ (aw.o.f (eR wr).drew)) ?_;rintro e w8 ⟨v8,rfl,ap,aF⟩;obtain⟨a8,n8,c8,rfl⟩:=ap.i;go_wp2;refine kO hK (fun _=>cE f aF) (fun f=>?_);clear hK K;replace f:=f rfl;refine oo (i:=6) ?_;refine kd (i:=5) fun K hK=>?_;go_simp;refine cM (aG.o w8) ?_;rintro e w9 ⟨rfl,ar⟩;go_wp2;refine kO hK (fun _=>cE f ar) (fun f=>?_);clear hK K;replace f:=f rfl;have X9:Ba wr w9:=(eR wr).drew.trans (aF.trans ar);obtain⟨aI,aP⟩:=X9.cells;have aW:w.heap.size<w9.heap.size:=X9.lt zz;have aK:w.heap.size+1<w9.heap.size:=X9.lt pz;refine kd (i:=7) fun K hK=>?_;go_simp;refine kO hK (fun h=>nomatch h) (fun f=>?_);clear hK K;refine kd (i:=8) fun K hK=>?_;go_simp;refine kO hK (fun h=>nomatch h) (fun f=>?_);clear hK K;refine kd (i:=9) fun K hK=>?_;go_simp;refine kO hK (fun h=>nomatch h) (fun f=>?_);clear hK K;refine Jb kM ?_ _;go_wp2;refine bR (v:=P #[.string nm,Z a8 n8 c8,Y O d,Y O de,Y O g1,Y O g2]) (by simp[results,Tryz.results110,go_sem,aI,pz,aK,s0,s1,s2,s3,s4,s5]) rfl ⟨_,rfl,?_,eA⟩;have k8:Fa 74 2 w9 w.heap.size (Z a8 n8 c8) ((Zg L).map pc):=(ap.ext ar).mono (by have:=hx.size;simp only[Yb];omega);have aB:∀j,(Value.slice a8 n8 c8).ownBlock=I j->wr.heap.size<=j:=fun j hj=>(ap.lt j hj).1;have ab:∀q:Nat,q<wr.heap.size->(Value.slice a8 n8 c8).ownBlock≠I q:=fun q hq e=>by have:=aB q e;omega
   exact((((((((k8.setOther (p:=⟨w.heap.size,1,V⟩) (ab _ zz) _).setOther (p:=⟨w.heap.size,4,V⟩) (ab _ zz) _).setOther (p:=⟨w.heap.size,5,V⟩) (ab _ zz) _).setOther (p:=⟨w.heap.size+1,0,V⟩) (ab _ pz) _).setOther (p:=⟨w.heap.size+1,1,V⟩) (ab _ pz) _).setOther (p:=⟨w.heap.size+1,2,V⟩) (ab _ pz) _).setOther (p:=⟨w.heap.size+1,3,V⟩) (ab _ pz) _).setOther (p:=⟨w.heap.size+1,4,V⟩) (ab _ pz) _).setOther (p:=⟨w.heap.size+1,5,V⟩) (ab _ pz) _
def NI(i:ByteArray)(a:Option Addr)(m c:Nat)(d b e f:Int)(w:X):(Instr.field 76 (P #[.string i,Z a m c,Y O d,Y O b,Y O e,Y O f]) 1).run Tryz.prog w = .ok (Z a m c) w:=kM
structure pA (p:Pl):Prop where
 sh:∀q∈p.shape,(0<=q.1/\q.1<=2000)/\(0<=q.2/\q.2<=2000)
 ne:p.shape≠[]
 le:p.shape.length<=12
 w0:0<=p.way
 w1:p.way<=7
 ax:Bd 100000 p.ax
 az:Bd 100000 p.az
 gx:Bd 100 p.gx
 gz:Bd 100 p.gz
def vH{p:Pl}(h:Ia p=true):pA p:=by
 unfold Ia vd Kd Uc Ra at h;rw[<-pC]at h;simp only[Bool.and_eq_true,Bool.not_eq_true',Bool.or_eq_false_iff,decide_eq_true_eq,decide_eq_false_iff_not]at h;obtain⟨⟨⟨⟨⟨m,b⟩,n⟩,r⟩,⟨⟨s,h6⟩,t⟩⟩,⟨j,k⟩,⟨c,d⟩,⟨Vi,f⟩,i⟩:=h;unfold Eh at b;simp only[Bool.and_eq_true,List.all_eq_true]at b;have hc:=b.2.1;unfold Pf Ra at hc;simp only[Bool.and_eq_true,decide_eq_true_eq]at hc;refine⟨fun q l=>?_,fun e=>?_,by omega,j,k,by unfold Bd;omega,by unfold Bd;omega,by unfold Bd;omega,by unfold Bd;omega⟩
 ·have:=b.1 q l;unfold Ra at this;simp only[Bool.and_eq_true,decide_eq_true_eq]at this;exact⟨by omega,by omega⟩
 ·rw[e]at hc;simp at hc
def pA.bd{p:Pl}(h:pA p):∀q∈p.shape,Bd 1000000 q.1/\Bd 1000000 q.2:=fun q b=>by
 have:=h.sh q b;unfold Bd;omega
def tM{way:Int}{l:LP}(r:∀q∈l,Bd 1000000 q.1/\Bd 1000000 q.2)(k:l≠[]):∀q∈tg way l,Bd 2000000 q.1/\Bd 2000000 q.2:=by
 intro q f;have s:0<l.length:=List.length_pos_iff.2 k;unfold tg at f;obtain⟨b,m⟩:=gX (((List.range l.length).map fun i=>Df way (Pa l (if 4<=way then l.length-1-i else i))));rw[m]at f;have j:b.length=l.length:=by rw[<-m];simp
 have c:∀q∈b,Bd 1000000 q.1/\Bd 1000000 q.2:=by
  rw[<-m];intro q f;obtain⟨i,d,rfl⟩:=List.mem_map.1 f;have d:=List.mem_range.1 d;refine UA (r _ (Ti ?_)) _;split<;>omega
 have v:Bd 1000000 (Ua b).1/\Bd 1000000 (Ua b).2:=by
  rw[<-ux (by intro e;rw[e]at j;simp at j;omega)];have:∀i,i<=b.length->Bd 1000000 (Ui b i).1/\Bd 1000000 (Ui b i).2:=by
   intro i;induction i with
   | zero=>intro _;exact c _ (Ti oM)
   | succ i t =>
    intro d;have u:=t oM;have n:=c _ (Ti (l:=b) (i:=i) oM);have e:Ui b (i+1)=(min (Ui b i).1 (Pa b i).1,min (Ui b i).2 (Pa b i).2):=rfl;rw[e];unfold Bd at *;dsimp only;omega
  exact this _ (nE _)
 unfold Zg at f;obtain⟨i,d,rfl⟩:=List.mem_map.1 f;have d:=List.mem_range.1 d;have n:=c _ (Ti (l:=b) (i:=(Tc b b.length+i)%b.length) (Nat.mod_lt _ oM));unfold Bd at *;dsimp only;omega
def AA(c:X)(b:LP)(f:Int×Int->Int×Int)(t4 t5:J)(W:X):Prop:=
 ∃i:Nat,t5=Y O i/\i<=b.length/\Fa 74 2 W c.heap.size t4 (((b.take i).map f).map pc)/\Ba c W
def Fy(w:X)(v:J)(p:Pl)(h:Ab w v p.shape)(hok:Ia p=true):Calls Tryz.prog 80 #[P (Dd p v)] w (Ni w (Ca p)):=by
 rw[<-TK];have r:=vH hok;have hB:=r.bd;have aa:=tM (way:=p.way) hB r.ne;have hT:=fun W (hW:Ba w W)=>JP W p.name v p.shape p.depth p.density p.gx p.gz p.way (h.f hW) hB r.ne (by have:=r.le;omega) r.w0 r.w1 (by have:=r.gx;unfold Bd at *;omega) (by have:=r.gz;unfold Bd at *;omega);have ac:=r.ax;have ae:=r.az;have aj:(tg p.way p.shape).length<=12:=by unfold tg Zg;simpa using r.le
 unfold Um;obtain⟨nm,l,d,de,gx,gz,wy,ax,az,sk⟩:=p;dsimp only at h hok r hB aa hT ac ae aj ⊢;obtain⟨gg,al⟩:=gX (Df wy (gx,gz));obtain⟨j,f⟩:=gX (tg wy l);obtain⟨F,hF⟩:∃F:Int×Int->Int×Int,(fun q=>(q.1+ax,q.2+az))=F:=⟨_,rfl⟩;rw[al,f]at hT;rw[f]at aa aj ⊢;rw[hF];obtain⟨a,c,rfl⟩:=h.form;obtain⟨n0,am⟩:=gX l.length;have HT:=Aa hT;have HF:=Aa hF;have au:=Aa aa;unfold Bd at ac ae;obtain⟨aA,aB⟩:=ac;obtain⟨aC,aD⟩:=ae;unfold Dd;dsimp only;rw[am]at HT ⊢;clear al f hF hT aa hB r hok h am;have aF:=NI;go_in;go_wp2_with(go_at_call 110;refine cM (HT.o _ eA) ?_;rintro e w2 ⟨v2,rfl,ai,ap⟩;obtain⟨a2,n2,c2,rfl⟩:=ai.i;obtain⟨⟨af,av⟩,ay⟩:=Id w ap);have X2:Ba w w2:=eA;have f:=ai.pr;have an:=f.len;obtain⟨n,hn⟩:=gX j.length;rw[hn]at an aj;subst an;have aq:=Aa f;have Hn:=Aa hn;have b0:w2.cell? ⟨w.heap.size,7,V⟩=I (Y O ax):=by rw[af _ _ sM];go_simp
 have b1:w2.cell? ⟨w.heap.size,8,V⟩=I (Y O az):=by rw[af _ _ sM];go_simp
 clear f hn ai ap af av;go_loopw [4,5] (AA w2 j F) (fun _ t5 _=>n2-(intOf t5).toNat)
 case atStart=>exact⟨0,rfl,by omega,Fa.nil _ _ _ _,eR _⟩
 case round =>
  obtain⟨i,rfl,hi,y,hx⟩:=hrel;rw[Hn.o]at hi;obtain⟨va,vn,vc,rfl⟩:=y.i;have s:=Aa y;have d0:=hx.d b0;have d1:=hx.d b1;clear y;by_cases ah:i<n2
  ·obtain⟨b,o,rfl,aE,c0,c1⟩:=(aq.o.f hx).pt (i:=i) (by rw[Hn.o];exact ah);have bk:=au.o _ (Ti (l:=j) (i:=i) (by rw[Hn.o];exact ah));have R:(j.take (i+1)).map F=(j.take i).map F++[F (Pa j i)]:=by
    rw[Ce j i (Pa j i) (by rw[Oh (by rw[Hn.o];exact ah)];exact gE _),List.map_append];rfl
   have ak:F (Pa j i)=((Pa j i).1+ax,(Pa j i).2+az):=by rw[<-HF.o]
   rw[ak]at R;obtain⟨⟨x,z⟩,hq⟩:∃q,Pa j i=q:=⟨_,rfl⟩;rw[hq]at c0 c1 bk R;unfold Bd at bk;dsimp only at c0 c1 bk R;obtain⟨⟨x0,x1⟩,⟨z0,z1⟩⟩:=bk;have ar:=Aa R;have g0:(0:Int)<=(i:Int):=oM;have g1:(i:Int)<(n2:Int):=oM;have aH:IntKind.i64.wrap (x+ax)=x+ax:=iW _ oM;have aI:IntKind.i64.wrap (z+az)=z+az:=iW _ oM;clear hq R ak;go_wp2;refine Ai (fun i=>decide (20<i)) (Ea [(⟨b,o+i*2,V⟩,Y O x),(⟨b,o+i*2+1,V⟩,Y O z),(⟨w.heap.size,7,V⟩,Y O ax),(⟨w.heap.size,8,V⟩,Y O az)]) kM ?_ (fun u=>?_)
   ·exact cA
   refine sN 0 ?_
   iterate 20 refine qi ?_
   refine oN ?_;refine kd (i:=20) fun K hK=>?_;go_simp;refine kO hK (fun _=>cE u ((eR wr.drew).alloc _)) (fun u=>?_);clear hK K;replace u:=u rfl;refine kd (i:=21) fun K hK=>?_;refine Vo (T:=74) (t:=22) (z:=P #[Y O 0,Y O 0]) (k:=2) (bytes:=16) (v:=Z va vn vc) (base:=w2.heap.size) Xr rfl dM dM Tryz.underlying22 rfl _ _ rfl rfl (s.o.ext ((eR wr).alloc (Obj.cells #[Value.int O (x+ax),Value.int O (z+az)] 74)).drew) (ad:=⟨wr.heap.size,0,V⟩) (m:=1) (c:=1) rfl [pc (x+ax,z+az)] rfl (by simp[pc]) (by exact Vr wr (x+ax) (z+az)) (Fp _ _) (by rw[lL,lL,List.length_take];omega) (by have:=hx.size;simp only[wZ,Yb];omega) ?_;intro v5 w5 L ag aw;have ao:=s.o.lt;have ab:Below w2.heap.size wr w5:=((((eR wr).alloc (Obj.cells #[Value.int O (x+ax),Value.int O (z+az)] 74)).drew).below hx.size).trans (Yg ag (by have:=hx.size;simp only[wZ,Yb];omega) (fun k hk=>(ao k hk).1));have X5:Ba w2 w5:=hx.D ab (nE _);have aG:=ab.size;refine kO hK (fun h=>nomatch h) (fun _=>?_);clear hK K;obtain⟨a5,n5,c5,rfl⟩:=L.i;refine kd (i:=22) fun K hK=>?_;go_simp;refine kO hK (fun h=>nomatch h) (fun u=>?_);clear hK K;refine Jb kM ?_ _;go_wp2;go_roundw
   case rel=>exact⟨i+1,by go_num,by rw[Hn.o];omega,by rw[ar.o,List.map_append];exact L,X5⟩
   case measure=>simp[intOf];omega
  ·obtain rfl:i=n2:=oM;have e:(j.take i).map F=j.map F:=by rw[lT (by rw[Hn.o];omega)]
   go_wp2;go_ret;exact⟨_,rfl,by have:=s.o;rw[e]at this;exact this.mono X2.size,X2.trans hx⟩
def Ys(w:X)(v:J)(l:LP)(h:Ab w v l)(K:l≠[]):Calls Tryz.prog 93 #[v] w fun e w'=>e=.returned (.tuple #[Y O (Pa l 0).1,Y O (Pa l (l.length-1)).1])/\Ba w w':=by
 obtain⟨a,c,rfl⟩:=h.form;obtain⟨n,j⟩:=gX l.length;have k:0<n:=by rw[<-j];exact List.length_pos_iff.2 K
 have f:=h.le;unfold maxLen at f;obtain⟨b,o,rfl,ab,s,t⟩:=h.pt (i:=0) (by rw[j];exact k);obtain⟨b2,o2,W,ac,u,r⟩:=h.pt (i:=n-1) (by rw[j];omega);cases W;rw[j];obtain⟨⟨x,z⟩,L⟩:∃q,Pa l 0=q:=⟨_,rfl⟩;obtain⟨⟨R,z2⟩,d⟩:∃q,Pa l (n-1)=q:=⟨_,rfl⟩;obtain⟨m,y⟩:=gX (n-1);rw[y]at d u r;rw[y,L,d];rw[L]at s t;rw[d]at u r;dsimp only at s t u r ⊢;simp only[Nat.zero_mul,Nat.add_zero]at s;obtain rfl:n=m+1:=oM;have g1:(m:Int)+1-1=(m:Int):=oM;have g2:(m:Int)<(m:Int)+1:=oM;have kw:IntKind.i64.wrap (m:Int)=(m:Int):=iW _ oM;have k0:(0:Int)<=(m:Int):=Int.natCast_nonneg m;clear f k L d y j h t r;go_in;go_wp2;refine od [(⟨b,o,V⟩,Y O x),(⟨b,o+m*2,V⟩,Y O R)] cA fun aa=>?_;refine sN 0 ?_
 iterate 13 refine ub ?_
 refine oN ?_;refine Tb ?_;go_wp2;exact bR (v:=.tuple #[Y O x,Y O R]) (by simp[results,Tryz.results93,go_sem]) rfl ⟨rfl,eA⟩
def MV(w:X)(l:LP)(by':Int)(b c:J)(W:X):Prop:=
 ∃i f:Nat,c=Y O i/\b=Y O f/\Ie l by' i=f/\i<=l.length/\Ba w W
def nH{l:LP}{by':Int}(b:by'=1\/by' = -1){i:Nat}(h:i<=l.length)(h0:0<l.length):Ie l by' i<l.length:=by
 cases i with
 | zero=>unfold Ie;omega
 | succ i=>have:=(QB l b i).1;omega
def LV(w:X)(cs:LP)(by':Int)(s:Nat)(L:LP)(b t9:J)(W:X):Prop:=
 ∃m i:Nat,m<L.length/\t9=Y O i/\Rh cs.length s by' (m+1)=i/\Fa 74 2 W w.heap.size b ((L.take (m+1)).map pc)/\Ba w W
def LM(w:X)(x z:Int):Fa 74 2 (w.alloc (Obj.cells #[Value.int O (x),Value.int O (z)] 74)) w.heap.size (Z (I ⟨w.heap.size,0,V⟩) 1 1) [pc (x,z)]:=
 ⟨by simp[pc],by simp[pc],.inr ⟨w.heap.size,1,_,by simp,nE _,aN w _,by simp,by unfold maxLen;omega,by simp,by simp[pc]⟩⟩
def zF(w:X)(v:J)(l L:LP)(by':Int)(hb:by'=1\/by' = -1)(h:Ab w v l)(hc:Kr l by' L)(hB:∀q∈l,Bd 3000000 q.1/\Bd 3000000 q.2)(hl:l.length<=1000)(hL:L.length<=1000):Calls Tryz.prog 96 #[v,Y O by'] w (Ni w L):=by
 obtain⟨a,c,rfl⟩:=h.form;obtain⟨n,hn⟩:=gX l.length;have ak:0<n:=by rw[<-hn];exact hc.pos
 have ap:0<L.length:=List.length_pos_iff.2 hc.ne;rw[hn]at hl ⊢;have u:=Aa hn;have H:=Aa h;have HB:=Aa hB;have Hc:=Aa hc;have Hb:=Aa hb;have b0:-1<=by':=oM;have b1:by'<=1:=oM;clear hn h hB hc hb;go_in;go_wp2;go_loopw [6,7] (MV w l by') (fun _ t7 _=>n-(intOf t7).toNat)
 case atStart=>exact⟨0,0,rfl,rfl,rfl,by omega,eR _⟩
 case round =>
  obtain⟨i,f,rfl,rfl,hf,hi,hx⟩:=hrel;rw[u.o]at hi;have af:Ie l by' i<n:=by rw[<-u.o];exact nH Hb.o (by rw[u.o];exact hi) (by rw[u.o];exact ak)
  have K:Ie l by' (i+1)=if uh by' (Pa l i) (Pa l f)then i else f:=by subst hf;rfl
  rw[hf]at af;obtain⟨b,o,rfl,aK,d0,d1⟩:=(H.o.f hx).pt (i:=f) (by rw[u.o];exact af);by_cases ax:i<n
  ·obtain⟨b2,o2,e2,aF,c0,c1⟩:=(H.o.f hx).pt (i:=i) (by rw[u.o];exact ax);cases e2;have bi:=HB.o _ (Ti (l:=l) (i:=i) (by rw[u.o];exact ax));have bf:=HB.o _ (Ti (l:=l) (i:=f) (by rw[u.o];exact af));obtain⟨⟨x,z⟩,hq⟩:∃q,Pa l i=q:=⟨_,rfl⟩;obtain⟨⟨r,fz⟩,hp⟩:∃q,Pa l f=q:=⟨_,rfl⟩;rw[hq]at c0 c1 bi;rw[hp]at d0 d1 bf;have K:Ie l by' (i+1)=if uh by' (x,z) (r,fz)then i else f:=by rw[<-hq,<-hp];exact K
   have ah:Ie l by' (i+1)=if x<r\/(x=r/\by'*(z-fz)<0)then i else f:=by rw[K];unfold uh;rfl
   unfold Bd at bi bf;dsimp only at c0 c1 d0 d1 bi bf;have g0:(0:Int)<=(i:Int):=oM;have g1:(i:Int)<(n:Int):=oM;have g2:(0:Int)<=(f:Int):=oM;have g3:(f:Int)<(n:Int):=oM;obtain⟨M,hM⟩:=gX (by'*(z-fz));have aJ:-6000000<=M/\M<=6000000:=by rw[<-hM];rcases Hb.o with h|h<;>subst h<;>omega
   simp only[hM]at ah;have aO:IntKind.i64.wrap (z-fz)=z-fz:=iW _ oM;have aP:IntKind.i64.wrap M=M:=iW _ oM;have ai:=Aa ah;clear hf hq hp K ah;by_cases h1:x<r
   ·have e:x<r\/(x=r/\M<0):=.inl h1;have E:=Aa e;(have k1:decide (x<r)=true:=by simpa using h1);clear e;go_wp2;refine od [(⟨b,o+i*2,V⟩,Y O x),(⟨b,o+i*2+1,V⟩,Y O z),(⟨b,o+f*2,V⟩,Y O r),(⟨b,o+f*2+1,V⟩,Y O fz)] cA fun ac=>?_;refine sN 0 ?_
    iterate 12 refine ub ?_
    (iterate 27 refine Te ?_);refine ub ?_;refine oN ?_;refine Tb ?_;go_wp2;go_roundw
    case rel=>exact⟨i+1,_,by go_num,rfl,by rw[ai.o,if_pos E.o],by rw[u.o];omega,eA⟩
    case measure=>simp[intOf];omega
   ·(have k1:decide (x<r)=false:=by simpa using h1);by_cases h2:x=r
    ·(have h3:(x==r)=true:=by simpa using h2);by_cases h4:M<0
     ·(have k2:decide (M<0)=true:=by simpa using h4);have e:x<r\/(x=r/\M<0):=.inr ⟨h2,h4⟩;have E:=Aa e;clear h2 e;go_wp2;refine od [(⟨b,o+i*2,V⟩,Y O x),(⟨b,o+i*2+1,V⟩,Y O z),(⟨b,o+f*2,V⟩,Y O r),(⟨b,o+f*2+1,V⟩,Y O fz)] cA fun ac=>?_;refine sN 0 ?_
      (iterate 40 refine ub ?_);refine oN ?_;refine Tb ?_;go_wp2;go_roundw
      case rel=>exact⟨i+1,_,by go_num,rfl,by rw[ai.o,if_pos E.o],by rw[u.o];omega,eA⟩
      case measure=>simp[intOf];omega
     ·(have k2:decide (M<0)=false:=by simpa using h4);have e:¬(x<r\/(x=r/\M<0)):=oM;have E:=Aa e;clear h2 e;go_wp2;refine od [(⟨b,o+i*2,V⟩,Y O x),(⟨b,o+i*2+1,V⟩,Y O z),(⟨b,o+f*2,V⟩,Y O r),(⟨b,o+f*2+1,V⟩,Y O fz)] cA fun ac=>?_;refine sN 0 ?_
      (iterate 40 refine ub ?_);refine oN ?_;refine Tb ?_;go_wp2;go_roundw
      case rel=>exact⟨i+1,_,by go_num,rfl,by rw[ai.o,if_neg E.o],by rw[u.o];omega,eA⟩
      case measure=>simp[intOf];omega
    ·(have h3:(x==r)=false:=by simpa using h2);have e:¬(x<r\/(x=r/\M<0)):=oM;have E:=Aa e;clear h2 e;go_wp2;refine od [(⟨b,o+i*2,V⟩,Y O x),(⟨b,o+i*2+1,V⟩,Y O z),(⟨b,o+f*2,V⟩,Y O r),(⟨b,o+f*2+1,V⟩,Y O fz)] cA fun ac=>?_;refine sN 0 ?_
     iterate 24 refine ub ?_
     iterate 14 refine Te ?_
     (iterate 2 refine ub ?_);refine oN ?_;refine Tb ?_;go_wp2;go_roundw
     case rel=>exact⟨i+1,_,by go_num,rfl,by rw[ai.o,if_neg E.o],by rw[u.o];omega,eA⟩
     case measure=>simp[intOf];omega
  ·obtain rfl:i=n:=oM;obtain⟨⟨sx,sz⟩,hp⟩:∃q,Pa l f=q:=⟨_,rfl⟩;rw[hp]at d0 d1;dsimp only at d0 d1;have hs:Ie l by' l.length=f:=by rw[u.o];exact hf
   have ae:=Hc.o.at' 0 ap;rw[hs,u.o,yx af,hp]at ae;have g2:(0:Int)<=(f:Int):=oM;have g3:(f:Int)<(i:Int):=oM;have g4:¬(i:Int)<(i:Int):=oM;have R:=Ax (n:=i) (s:=f) (k:=0) (by':=by') ak;rw[yx af]at R;have al:Int.tmod ((f:Int)+by'+(i:Int)) (i:Int)=((Rh i f by' 1:Nat):Int):=by
    rw[Int.tmod_eq_emod_of_nonneg oM];exact R
   have aM:¬(i:Int)=0:=oM;have aI:¬i=0:=oM;obtain⟨j1,ar⟩:=gX (Rh i f by' 1);rw[ar]at al;have aD:=Aa ar;have aC:=Aa ae;have Hs:=Aa hs;have aB:=hx.size;clear hp hf ae R ar hs;go_wp2;go_loopw [8,9] (LV w l by' f L) (fun t8 _ _=>L.length-(match t8 with | Z _ n _=>n|_=>0))
   case atStart =>
    refine⟨0,j1,ap,rfl,by rw[u.o];exact aD.o,?_,eA⟩;have e:(L.take (0+1)).map pc=[pc (sx,sz)]:=by
     rw[Ce L 0 (Pa L 0) (by rw[Oh ap];exact gE _),aC.o];rfl
    rw[e];exact(LM wr sx sz).mono aB
   case round =>
    clear d0 d1 hx g2 g3 al aB;obtain⟨m,j,hm,rfl,hj,d,hx⟩:=hrel;rw[u.o]at hj;(have aG:j<i:=by rw[<-hj];exact Oq ak);obtain⟨b2,o2,e2,aF,c0,c1⟩:=(H.o.f hx).pt (i:=j) (by rw[u.o];exact aG);cases e2;obtain⟨va,vc,aA⟩:=d.form;rw[lL,List.length_take,Nat.min_eq_left oM]at aA;subst aA;obtain⟨g,rfl,hg,aL⟩:=d.blk (by rw[lL,List.length_take];omega);have W:((L.take (m+1)).map pc)[m]?=I (pc (Pa L m)):=by
     rw[lP,List.getElem?_take,if_pos oM,Oh hm,gE hm];rfl
    have l0:=d.cell (j:=0) W rfl;have ab:m+1<L.length->(Pa L m).1<(Pa L (m+1)).1/\Pa L (m+1)=Pa l j:=fun h9=>⟨Hc.o.up m h9,by rw[Hc.o.at' _ h9,Hs.o,u.o,hj]⟩;have aa:¬m+1<L.length->(Pa l j).1<=(Pa L m).1:=fun h9=>by
     have:=Hc.o.stop;rw[Hs.o,u.o,show L.length=m+1 by omega,hj]at this;exact this
    obtain⟨⟨qx,qz⟩,hq⟩:∃q,Pa l j=q:=⟨_,rfl⟩;obtain⟨⟨lx,lz⟩,au⟩:∃q,Pa L m=q:=⟨_,rfl⟩;rw[hq]at c0 c1 ab aa;rw[au]at l0 ab aa;dsimp only at c0 c1 l0 ab aa;simp only[Nat.add_zero]at l0;have am:=Aa d;have R:=Ax (n:=i) (s:=f) (k:=m+1) (by':=by') ak;rw[hj]at R;have al:Int.tmod ((j:Int)+by'+(i:Int)) (i:Int)=((Rh i f by' (m+1+1):Nat):Int):=by
     rw[Int.tmod_eq_emod_of_nonneg oM];exact R
    obtain⟨j2,aj⟩:=gX (Rh i f by' (m+1+1));rw[aj]at al;have aE:=Aa aj;have k0:(0:Int)<=(j:Int):=oM;have k1:(j:Int)<(i:Int):=oM;have k2:(0:Int)<=(m:Int):=oM;have k3:(m:Int)<(m:Int)+1:=oM;have k4:(m:Int)+1-1=(m:Int):=oM;by_cases y:m+1<L.length
    ·obtain⟨h1,h2⟩:=ab y;rw[h2]at h1;dsimp only at h1;(have e1:decide (lx<qx)=true:=by simpa using h1);have H2:=Aa h2;have ao:=Aa hx.size;have kw:IntKind.i64.wrap (m:Int)=(m:Int):=iW _ oM;clear ab aa hq au d W hj R aj h2;go_wp2;refine od [(⟨b,o+j*2,V⟩,Y O qx),(⟨g,m*2,V⟩,Y O lx)] cA fun ac=>?_;refine sN 0 ?_
     (iterate 13 refine ub ?_);refine oN ?_;refine Tb ?_;clear kw;go_wp2_with(at_builtin;refine Mi (T:=74) (t:=122) (z:=P #[Y O 0,Y O 0]) (k:=2) (bytes:=16) (base:=w.heap.size) (v:=Z (I ⟨g,0,V⟩) (m+1) vc) (m:=1) (c:=1) (ad:=⟨wr.heap.size,0,V⟩) Xr rfl dM dM Tryz.underlying122 rfl _ _ rfl rfl (am.o.ext ((eR wr).alloc (Obj.cells #[Value.int O (qx),Value.int O (qz)] 74)).drew) rfl [pc (qx,qz)] rfl (by simp[pc]) (by exact Vr wr qx qz) (Fp qx qz) (by rw[lL,List.length_take];omega) (by have:=ao.o;simp only[wZ,Yb];omega) ?_;intro v' w5 ag aq aH);obtain⟨a5,c5,az⟩:=ag.form;rw[lA,lL,List.length_take,Nat.min_eq_left oM,List.length_singleton]at az;subst az;go_roundw
     case rel =>
      have ay:=am.o.lt;have aw:Below w.heap.size wr w5:=((((eR wr).alloc (Obj.cells #[Value.int O (qx),Value.int O (qz)] 74)).drew).below ao.o).trans (Yg aq (by have:=ao.o;simp only[wZ,Yb];omega) (fun k hk=>(ay k hk).1));refine⟨m+1,j2,y,rfl,by rw[u.o];exact aE.o,?_,hx.D aw (nE _)⟩;rw[Ce L (m+1) (Pa L (m+1)) (by rw[Oh y];exact gE _),List.map_append,H2.o];exact ag
     case measure=>simp;omega
    ·have h1:=aa y;(have e1:decide (lx<qx)=false:=by simp;omega);have eL:L.length=m+1:=oM;have an:Fa 74 2 wr w.heap.size (Z (I ⟨g,0,V⟩) (m+1) vc) (L.map pc):=by
      have:=d;rw[lT oM]at this;exact this
     have av:=Aa an;have kw:IntKind.i64.wrap (m:Int)=(m:Int):=iW _ oM;clear ab aa hq au d W hj R aj an eL h1;go_wp2;refine od [(⟨b,o+j*2,V⟩,Y O qx),(⟨g,m*2,V⟩,Y O lx)] cA fun ac=>?_;refine sN 0 ?_
     (iterate 13 refine ub ?_);refine oN ?_;refine Tb ?_;go_wp2;go_ret;exact⟨_,rfl,av.o.ext (eR wr).drew,hx.drew⟩
end
section
open Go.RowKit Go.Shelf
attribute [local go_sem] Oper.semAt_some
def AB(w:X)(r s:J)(ps:List Pl)(a:Nat)(p:Pl)(b f:Int)(j:LP)(hg:∃a n c,r=Z a n c)(x:ld w s ps)(u:ps[a]?=I p)(d:b<0\/∃(y:Nat)(q:Pl),b=(y:Int)/\ps[y]?=I q/\Le p q=true/\(a:Int)≠b)(k:je (Ga p))(t:je j)(m:Xh j)(i:∀W,Ba w W->Calls Tryz.prog 182 #[P #[r,s],Y O b] W fun e z=>∃v,e=.returned v/\Ja z v j/\Ba W z)(hp:Bd 104000 f):Calls Tryz.prog 138 #[P #[r,s],Y O a,Y O b,Y O f] w (Yf w (Ig p j b f)):=by
 by_cases l:(Ld (Ga p) j).lo<(Ld (Ga p) j).hi
 ·cases hro:Wc (Ld (Ga p) j) f with
  | none=>exact lO w r s ps a p b f j hg x u d k t m i hp l hro
  | some K=>exact ZN w r s ps a p b f j hg x u d k t m i hp l K hro
 ·exact jO w r s ps a p b f j hg x u d k t m i hp l
end
section
open Go.RowKit Go.Shelf Go.Sort Go.Lib
def Dk.keep{w w':X}{c:List J}{b:Be}(h:Dk w c b)(k:Ka 2 w w'):Dk w' c b:=by obtain⟨f,t,d,e,i⟩:=h;exact⟨f,t,d,e.keep k,i.keep k⟩
def Qd(w:X)(base:Nat)(v:J)(d:List Be):Prop:=∃cs,Fa 185 17 w base v cs/\cs.length=d.length/\∀(i:Nat) c b,cs[i]?=I c->d[i]?=I b->Dk w c b
def Qd.ext{w w':X}{base:Nat}{v:J}{d:List Be}(h:Qd w base v d)(k:Ba w w'):Qd w' base v d:=by obtain⟨e,f,j,l⟩:=h;exact⟨e,f.ext k,j,fun i c b hc m=>(l i c b hc m).ext k⟩
def Qd.nil(w:X)(base:Nat):Qd w base (Z V 0 0) []:=⟨[],Fa.nil _ _ _ _,rfl,fun i c b hc=>by simp at hc⟩
def Qd.i{w:X}{base:Nat}{v:J}{b:List Be}(h:Qd w base v b):∃a n c,v=Z a n c:=by obtain⟨e,d,_⟩:=h;exact d.i
def Qd.app{wr j:X}{base:Nat}{m:J}{f:List Be}{cs:List (List J)}{d:List J}{b:Be}(h:Fa 185 17 j base m (cs++[d]))(k:cs.length=f.length)(l:∀(i:Nat) c b,cs[i]?=I c->f[i]?=I b->Dk wr c b)(s:Ka 2 wr j)(q:Dk j d b):Qd j base m (f++[b]):=by
 refine⟨cs++[d],h,by simp[k],fun i c n hc e=>?_⟩;by_cases r:i<cs.length
 ·rw[List.getElem?_append_left r]at hc;rw[List.getElem?_append_left oM]at e;exact(l i c n hc e).keep s
 ·rw[List.getElem?_append_right oM]at hc e;have t:=(lS.1 hc).1;simp at t;have:i-cs.length=0:=oM;rw[this]at hc;rw[show i-f.length=0 by omega]at e;simp at hc e;subst hc e;exact q
def MJ:(Tryz.prog.info? 185).map (fun i=>(i.zero,i.size,i.bytes))=I (I (P Tk),17,264):=kM
def Eb(g:LP)(ps:List Pl)(a:Nat)(p:Pl)(c b:Int):Option Be:=
 if (a:Int)=b then V else if b<0 then Ig p g b c else match ps[b.toNat]? with|none=>V|some q=>if Le p q=true then Ig p (Kb q) b c else V
def We(g:LP)(ps:List Pl)(a:Nat)(p:Pl)(b:Int)(n:Nat):List Be:=(List.range n).filterMap fun k:Nat=>Eb g ps a p b ((k:Int)-1)
def KF(g:LP)(ps:List Pl)(a:Nat)(p:Pl)(c:Int)(n:Nat):We g ps a p c (n+1)=We g ps a p c n++(match Eb g ps a p c ((n:Int)-1)with|none=>[]|some b=>[b]):=by
 unfold We;rw[List.range_succ,List.filterMap_append]
 congr 1
 cases h:Eb g ps a p c ((n:Int)-1)<;>simp[h]
def lF(g:LP)(ps:List Pl)(a:Nat)(p:Pl)(b:Int)(n:Nat):(We g ps a p b n).length<=n:=by unfold We;have:=List.length_filterMap_le (fun k:Nat=>Eb g ps a p b ((k:Int)-1)) (List.range n);simpa using this
def mL(w:X)(d f:J)(g:LP)(ps:List Pl)(a:Nat)(p:Pl)(b c:Int)(hg:Ja w d g)(j:ld w f ps)(l:ps[a]?=I p)(m:Bb g=true)(hok:∀q∈ps,Ia q=true)(x:-1<=b)(y:b<ps.length)(hp:Bd 104000 c):Calls Tryz.prog 138 #[P #[d,f],Y O a,Y O b,Y O c] w (Yf w (Eb g ps a p c b)):=by
 have n:=hok p (lM l);unfold Eb;by_cases k:(a:Int)=b
 ·rw[if_pos k,<-k];exact iO w d f ps a p c (Ma hg) j l
 rw[if_neg k];by_cases t:b<0
 ·rw[if_pos t];exact AB w d f ps a p b c g (Ma hg) j l (.inl t) (ol n).1 (nt m) (QP m) (fun W u=>(qR W d f b t (Ma hg) (Ma j)).mono (by rintro e z ⟨rfl,v⟩;exact⟨_,rfl,hg.f (u.trans v),v⟩)) hp
 rw[if_neg t];obtain⟨q,r⟩:∃q,ps[b.toNat]?=I q:=⟨ps[b.toNat]' oM,gE _⟩;have s:=lM r;simp only[r];have i:b=((b.toNat:Nat):Int):=oM;cases hmt:Le p q with
 |false=>
  rw[if_neg sM];exact TQ w d f ps a p b c (Ma hg) j l b.toNat i q r hmt k
 |true=>
 rw[if_pos rfl];refine AB w d f ps a p b c (Kb q) (Ma hg) j l (.inr ⟨b.toNat,q,i,r,hmt,k⟩) (ol n).1 (ol (hok q s)).2 (PK (hok q s)) (fun W u=>?_) hp;have:=yN W d f ps b.toNat q (Ma hg) (j.f u) r;rw[<-i]at this;exact this
def Qd.lt{w:X}{base:Nat}{v:J}{b:List Be}(h:Qd w base v b):∀j,v.ownBlock=I j->base<=j/\j<w.heap.size:=by obtain⟨d,c,_⟩:=h;exact c.lt
def Qd.mono{w:X}{base b':Nat}{v:J}{b:List Be}(h:Qd w base v b)(k:b'<=base):Qd w b' v b:=by obtain⟨c,d,e,f⟩:=h;exact⟨c,d.mono k,e,f⟩
def Xk(w:X)(b:List Be)(e:Ending)(w':X):Prop:=∃v,e=.returned (.tuple #[v,Y O 0])/\Qd w' w.heap.size v b/\Ba w w'
def ZG(w:X)(b:Nat)(j k:J)(ps:List Pl)(c:Nat->List Be)(f:Nat)(d e:J)(W:X):Prop:=
 ∃i:Nat,i<=ps.length+1/\e=Y O ((i:Int)-1)/\f=ps.length+1-i/\Ba w W/\b+1<=W.heap.size/\W.heap[b]?=I (G #[j,k] 149 (0,0))/\Qd W (b+1) d (c i)
def Dk.form{w:X}{c:List J}{b:Be}(h:Dk w c b):∃a m c1 s a2 m2 c2 b1 n k t b2 n2 k2 a' m' c' s' a2' m2' c2' b' n' k' t' b2' n2' k2',c=[Y O b.num,Z a m c1,C s,Z a2 m2 c2,Z b1 n k,C t,Z b2 n2 k2,Z a' m' c',C s',Z a2' m2' c2',Z b' n' k',C t',Z b2' n2' k2',Y O b.d1.1,Y O b.d1.2,Y O b.d2.1,Y O b.d2.2]:=by
 obtain⟨f,t,rfl,⟨a,m,c,s,a2,m2,c2,b1,n,k,d,b2,n2,k2,j,_,_⟩,a',m',c',s',a2',m2',c2',b',n',k',t',b2',n2',k2',l,_,_⟩:=h;have e:f=[Z a m c,C s,Z a2 m2 c2,Z b1 n k,C d,Z b2 n2 k2]:=by simpa using j
 have i:t=[Z a' m' c',C s',Z a2' m2' c2',Z b' n' k',C t',Z b2' n2' k2']:=by simpa using l
 subst e i;exact⟨a,m,c,s,a2,m2,c2,b1,n,k,d,b2,n2,k2,a',m',c',s',a2',m2',c2',b',n',k',t',b2',n2',k2',rfl⟩
def Ut{W w':X}{o:Option Be}{e:Ending}(h:Yf W o e w'):∃nb a m c1 s a2 m2 c2 b1 n k t b2 n2 k2 a' m' c' s' a2' m2' c2' b' n' k' t' b2' n2' k2' e1 e2 e3 e4 bb,e=.returned (.tuple #[P #[Y O nb,Z a m c1,C s,Z a2 m2 c2,Z b1 n k,C t,Z b2 n2 k2,Z a' m' c',C s',Z a2' m2' c2',Z b' n' k',C t',Z b2' n2' k2',Y O e1,Y O e2,Y O e3,Y O e4],C bb])/\(bb=true->∃be,o=I be/\Dk w' [Y O nb,Z a m c1,C s,Z a2 m2 c2,Z b1 n k,C t,Z b2 n2 k2,Z a' m' c',C s',Z a2' m2' c2',Z b' n' k',C t',Z b2' n2' k2',Y O e1,Y O e2,Y O e3,Y O e4] be)/\(bb=false->o=V)/\Ba W w':=by
 obtain⟨i,⟨d,f⟩|⟨b,c,d,f,j⟩⟩:=h
 ·exact⟨0,V,0,0,false,V,0,0,V,0,0,false,V,0,0,V,0,0,false,V,0,0,V,0,0,false,V,0,0,0,0,0,0,false,f,(fun h=>by cases h),fun _=>d,i⟩
 ·obtain⟨a,m,c1,s,a2,m2,c2,b1,n,k,t,b2,n2,k2,a',m',c',s',a2',m2',c2',b',n',k',t',b2',n2',k2',rfl⟩:=j.form;exact⟨b.num,a,m,c1,s,a2,m2,c2,b1,n,k,t,b2,n2,k2,a',m',c',s',a2',m2',c2',b',n',k',t',b2',n2',k2',b.d1.1,b.d1.2,b.d2.1,b.d2.2,true,f,fun _=>⟨b,d,j⟩,(fun h=>by cases h),i⟩
def YN{K wr W L:X}{l i:Nat}{vg vs v9:J}{ps:List Pl}{e:Nat->List Be}{va:J}{cs:List (List J)}{d:List J}{R:Be}{A:Array J}(ac:i<ps.length+1)(aa:K.heap.size=l)(hx:Ba K wr)(ab:l+1<=wr.heap.size)(hK:wr.heap[l]?=I (G #[vg,vs] 149 (0,0)))(z:Ba wr W)(hz:l+1<=W.heap.size)(x:Fa 185 17 wr (l+1) va cs)(v:cs.length=(e i).length)(w:∀(j:Nat) c b,cs[j]?=I c->(e i)[j]?=I b->Dk wr c b)(q:Fa 185 17 L (l+1) v9 (cs++[d]))(f:(W.alloc (G A 185)).grownBy L va.ownBlock)(y:Dk W d R)(hs:e (i+1)=e i++[R]):ZG K l vg vs ps e (ps.length+1-(i+1)) v9 (Y O (i:Int)) L:=by
 have m:=z.alloc (G A 185);have r:=x.ext m;have s:l+1<=(W.alloc (G A 185)).heap.size:=by simp only[wZ];omega
 have n:=Yg (base:=l+1) f s (fun k hk=>(r.lt k hk).1);have t:=r.keepT (T':=2) dM f;have u:=hx.trans m;refine⟨i+1,by omega,by go_num,rfl,u.D n oM,nT s n.size,(n.block _ oM).trans (m.e hK),?_⟩;rw[hs];exact Qd.app q v w (m.keep.trans t) ((y.ext ((eR _).alloc _)).keep t)
def SQ(w3 w4:X)(r:Nat)(vg vs:J)(ps:List Pl)(a:Nat)(af:Int)(f:Nat->List Be)(ao:Int->Option Be)(Q:Exit->Act->X->Prop)(x0 x3 x4 x5 x6 x7 x9 aX aY ay az aA aB aC aD aE aF aG aH aI aJ aZ a0 a1 a3 a4 a5 a6 a7 a8 ba bc bf bg bh bi bj bk bl bm bn bo:J)(aS:∃a n c,vg=Z a n c)(aa:ld w3 vs ps)(bO:ps.length<=120)(aw:∀n,f (n+1)=f n++(match ao ((n:Int)-1)with|none=>[]|some b=>[b]))(ar:∀n,(f n).length<=n)(aq:f 0=[])(hB:∀W,Ba w3 W->∀b:Int,-1<=b->b<ps.length->Calls Tryz.prog 138 #[P #[vg,vs],Y O a,Y O b,Y O af] W (Yf W (ao b)))(an:Ba w3 w4)(aK:r+1<=w4.heap.size)(ap:w3.heap.size=r)(K8:w4.heap[r]?=I (G #[vg,vs] 149 (0,0)))(hQ:∀(W:X)(ag aW bp bq br bs bt bu bv bw bx bz bA bB bC bD bE bF bG bH bI bJ bK bL bM:J),Ba w3 W->Qd W (r+1) ag (f (ps.length+1))->(∃a n c,ag=Z a n c)->Q (.exit 0) { tmps:=#[x0,Y O a,Y O af,x3,x4,x5,x6,x7,S (I ⟨r,0,V⟩),x9,ag,aW,bp,bq,ay,az,aA,aB,aC,aD,aE,aF,aG,aH,aI,aJ,br,bs,bt,bu,bv,bw,bx,bz,bA,bB,bC,bD,bE,bF,bG,bH,bI,bJ,bK,bL,bM],defers:=[] } W) :
  (Code.loop (Qc Tryz.f99 0)).wp Tryz.prog Q { tmps:=#[x0,Y O a,Y O af,x3,x4,x5,x6,x7,S (I ⟨r,0,V⟩),x9,Z V 0 0,Y O (-1),aX,aY,ay,az,aA,aB,aC,aD,aE,aF,aG,aH,aI,aJ,aZ,a0,a1,a3,a4,a5,a6,a7,a8,ba,bc,bf,bg,bh,bi,bj,bk,bl,bm,bn,bo],defers:=[] } w4:=by
 obtain⟨ga,gn,gc,rfl⟩:=aS;obtain⟨sa,sn,sc,rfl⟩:=Ma aa;have al:=Aa (show sn=ps.length from aa.len);have HB:=Aa hB;have am:=Aa aw;have aj:=Aa ar;have ai:=Aa aq;have aL:=Aa ap;have HQ:=Aa hQ;clear hB aw ar aq ap hQ aa;unfold Qc;simp only[Tryz.f99,Qb,List.append_nil,List.nil_append,List.singleton_append,List.getD_cons_zero,List.getD_cons_succ];go_loopg [10,11] (ps.length+1) (ZG w3 r (Z ga gn gc) (Z sa sn sc) ps f)
 case atStart=>exact⟨0,by omega,by go_num,by omega,an,aK,K8,by rw[ai.o];exact Qd.nil _ _⟩
 case round =>
  clear K8 an aK ai;obtain⟨i,hi,rfl,rfl,hx,aR,hK,j⟩:=hrel;obtain⟨va,vn,vc,rfl⟩:=j.i;have m0:=Da hK (i:=0) (u:=Z ga gn gc) rfl;have m1:=Da hK (i:=1) (u:=Z sa sn sc) rfl;have HK:=Aa hK;have Hx:=Aa hx;have q:=Aa j;clear hK;by_cases aT:i<ps.length+1
  ·have q1:-1<=(i:Int)-1:=oM;have q2:(i:Int)-1<(ps.length:Int):=oM;have q3:(i:Int)-1<(sn:Int):=by have:=al.o;omega
   have ah:=Aa (fun(W:X)(hW:Ba wr W)=>HB.o W (hx.trans hW) ((i:Int)-1) q1 q2);clear hx HB q1 q2;have aM:=Aa (fun(W:X)(hW:Ba wr W)=>(ah.o W hW).mono (fun e w' h=>Ut h));obtain⟨cs,av,L,au⟩:=j;have ak:=Aa av;have aP:=Aa au;have aO:=Aa L;have aQ:=Aa (show cs.length<=121 by rw[L];exact nT (aj.o i) oM);clear ah av L au aj HQ hi;go_wp2_with(first|(go_at_call 138;refine cM (aM.o _ eA) ?_;rintro e w5 ⟨nb,a,m,c1,s,a2,m2,c2,b1,n,k,t,b2,n2,k2,a',m',c',s',w,ac,y,b',n',k',t',x,ae,ab,e1,e2,e3,e4,bb,rfl,ax,aU,d⟩;(have z5:=d.size))|(at_builtin;refine Mi (T:=185) (t:=172) (z:=P Tk) (k:=17) (bytes:=264) (base:=r+1) (v:=Z va vn vc) (cs:=cs) (m:=1) (c:=1) (ad:=⟨w5.heap.size+1,0,V⟩) MJ rfl dM dM Tryz.underlying172 rfl _ _ rfl rfl (ak.o.ext ((d.alloc _).alloc _)) rfl [[Y O nb,Z a m c1,C s,Z a2 m2 c2,Z b1 n k,C t,Z b2 n2 k2,Z a' m' c',C s',Z w ac y,Z b' n' k',C t',Z x ae ab,Y O e1,Y O e2,Y O e3,Y O e4]] rfl sM (by have:=Wn (w5.alloc (G #[Y O nb,Z a m c1,C s,Z a2 m2 c2,Z b1 n k,C t,Z b2 n2 k2,Z a' m' c',C s',Z w ac y,Z b' n' k',C t',Z x ae ab,Y O e1,Y O e2,Y O e3,Y O e4] 185)) #[Y O nb,Z a m c1,C s,Z a2 m2 c2,Z b1 n k,C t,Z b2 n2 k2,Z a' m' c',C s',Z w ac y,Z b' n' k',C t',Z x ae ab,Y O e1,Y O e2,Y O e3,Y O e4] 185;simpa only[wZ] using this) (by simp[Value.oneCell']) (by have:=aQ.o;omega) (by simp only[wZ];omega) ?_;intro v' w9 l R bN;obtain⟨a9,n9,c9,rfl⟩:=l.i))
   ·go_roundg (ps.length+1-(i+1))
    case measure=>omega
    case rel =>
     obtain⟨be,K,aV⟩:=ax (by assumption);exact YN aT aL.o Hx.o aR HK.o (d.alloc _) (by simp only[wZ];omega) ak.o aO.o aP.o l R (aV.ext ((eR _).alloc _)) (by rw[am.o,K])
   ·go_roundg (ps.length+1-(i+1))
    case measure=>omega
    case rel =>
     have K:=aU (by assumption);exact⟨i+1,by omega,by go_num,rfl,(Hx.o.trans d).alloc _,by have:=d.size;simp only[wZ];omega,((eR _).alloc _).e (d.e HK.o),by rw[am.o,K,List.append_nil];exact(q.o.ext d).ext ((eR _).alloc _)⟩
  ·obtain rfl:i=ps.length+1:=oM;have q3:¬(((ps.length+1:Nat):Int)-1<(sn:Int)):=by have:=al.o;omega
   go_wp2;exact HQ.o _ _ _ _ _ _ _ _ _ _ _ _ _ _ _ _ _ _ _ _ _ _ _ _ _ _ Hx.o q.o ⟨_,_,_,rfl⟩
def kL(w:X)(vg vp:J)(g:LP)(ps:List Pl)(a:Nat)(p:Pl)(c:Int)(hg:Ja w vg g)(hp:Jd w vp ps)(ae:Gw w)(h0:Fb g ps=0)(ha:ps[a]?=I p)(av:0<=c)(aw:c<=50)(ad:Bb g=true)(hok:∀q∈ps,Ia q=true)(ao:ps.length<=120):Calls Tryz.prog 99 #[P #[vg,vp],Y O a,Y O c] w (Xk w (We g ps a p c (ps.length+1))):=by have HL:=Aa (fun(W:X)(m:Ba w W)=>(xF W vg vp g ps (hg.f m) (hp.f m) (ae.ext m)).mono (fun e w' h=>h.resolve_left (fun h9=>h9.1 h0)));have HB:=Aa (fun(W:X)(m:Ba w W)(vs:J)(hs:ld W vs ps)(b:Int)(v:-1<=b)(x:b<ps.length)=>mL W vg vs g ps a p b c (hg.f m) hs ha ad hok v x (by unfold Bd;omega));obtain⟨ga,gn,gc,rfl⟩:=Ma hg;obtain⟨pa,pn,ay,rfl⟩:=Ma hp;have af:=hp.len;have Hn:=Aa af;have Hw:=Aa (fun(l:Nat)(h:ps.length=l)=>(show Se l a c=false by unfold Se;have:=(lS.1 ha).1;simp;omega));clear af;have hi:=(lS.1 ha).1;obtain⟨u,d⟩:=gX (We g ps a p c);have s:=Aa (d▸KF g ps a p c);have aa:=Aa (d▸lF g ps a p c);have L:=Aa (show u 0=[] by rw[<-d];rfl);rw[d];obtain⟨aj,n⟩:=gX (Eb g ps a p c);rw[n]at HB s;obtain⟨R,hR⟩:=gX (Xk w (u (ps.length+1)));rw[hR];have HR:=Aa hR;clear hg hp ae h0 ha ad hok hR d n;go_in;go_wp2_with(first|(go_at_call 83;refine cM (HL.o _ eA) ?_;rintro e z ⟨-,vs,rfl,j,k⟩;obtain⟨sa,l,sc,rfl⟩:=Ma j;obtain⟨ak,am⟩:=k.cells;(have z3:=k.size);(simp only[wZ]at z3);(have ap:Se l a c=false:=Hw.o l j.len.symm);(have t:=Aa j);clear j;(have ar:w.heap.size<z.heap.size:=oM))|(go_at_call 137;(with_reducible refine(mN _ (Z ga gn gc) sa l sc a c ⟨_,_,_,rfl⟩).mono ?_);rw[ap];rintro e w4 ⟨rfl,f⟩;obtain⟨al,an⟩:=f.cells;(have z4:=f.size);(simp only[wZ]at z4)));have X3:Ba w z:=((eR w).alloc _).trans k;have au:=Aa (show l=ps.length from t.o.len);have K8:=f.e (aN z (G #[Z ga gn gc,Z sa l sc] 149));have ac:Ba z w4:=((eR z).alloc _).trans f;obtain⟨b8,i⟩:=gX z.heap.size;have K:=Aa X3;have ah:=Aa i;have ax:w.heap.size<=b8:=oM;have aq:b8+1<=w4.heap.size:=oM;rw[i]at K8;simp only[i];clear ak am al an k f X3 i z3 z4 ar;refine SQ z w4 b8 (Z ga gn gc) (Z sa l sc) ps a c u aj _ _ _ _ _ _ _ _ _ _ _ _ _ _ _ _ _ _ _ _ _ _ _ _ _ _ _ _ _ _ _ _ _ _ _ _ _ _ _ _ _ _ _ ⟨_,_,_,rfl⟩ t.o ao s.o aa.o L.o (fun W m b v x=>HB.o W (K.o.trans m) _ (t.o.f m) b v x) ac aq ah.o K8 ?_;intro W az aA aB aC aD aE aF aG aH aI aJ aK aL aM aO aP aQ aR aS aT aU aV aW aX aY ag r y;obtain⟨va,vn,vc,rfl⟩:=y;have ai:=Aa ag;have ab:=Aa r;clear ag r K8 ac HL HB s aa L;go_wp2;rw[<-HR.o];exact⟨_,rfl,ab.o.mono oM,K.o.trans ai.o⟩
section
variable {g:LP} {ps:List Pl} (hg:Zd g) (ng:g≠[]) (hok:∀p∈ps,Ia p=true) {a:Nat} {p:Pl} (hp:ps[a]?=I p)
include hg ng hok hp
end
end
section
open Go.RowKit Go.Shelf Go.Sort Go.Lib Go.Maps
def Mn(d q:Int×Int):Int×Int:=(q.1+d.1,q.2+d.2)
def qw(d:Int×Int)(l:LP):LP:=l.map (Mn d)
def ie.mv{cs:LP}{q:Int×Int}(d:Int×Int)(h:ie cs q):ie (qw d cs) (Mn d q):=by obtain⟨u,v,⟨b,e⟩,c⟩:=h;exact⟨Mn d u,Mn d v,⟨b.maps _,by unfold Mn;dsimp only;omega⟩,by rcases c with rfl|rfl<;>simp⟩
def vh.mv{cs:LP}{q:Int×Int}(d:Int×Int)(h:vh cs q):vh (qw d cs) (Mn d q):=by obtain⟨u,v,⟨b,e⟩,c⟩:=h;exact⟨Mn d u,Mn d v,⟨b.maps _,by unfold Mn;dsimp only;omega⟩,by rcases c with rfl|rfl<;>simp⟩
def Zd.mv{l:LP}(d:Int×Int)(h:Zd l):Zd (qw d l):=by unfold Zd qw at *;rw[List.pairwise_map];exact h.imp fun h=>by unfold Mn;dsimp only;omega
end
section
open Go.RowKit Go.Shelf Go.Maps
def Kt:Keyed Tryz.prog 3:=int_keyed Tryz.underlying3
def lN(w:World):(zeroValue 47).run Tryz.prog w = .ok (.slice none 0 0) w:=kM
def Gm(W:World)(base B n:Nat)(f:Nat->List Int):Prop:=
 ∃D:DataW Unit,W.ownsGroups Tryz.prog 3 base 3 .i64 B n D/\∀k:Nat,k<1000->(D.atKey (.int .i64 (k:Int)) .nil = .nil/\f k=[])\/D.atKey (.int .i64 (k:Int)) .nil = .slice (ChangeShapes.lits .i64 (f k)) []
def Gm.made(w:World):Gm (w.alloc (.map #[] 0)) (w.heap.size+1) w.heap.size 0 (fun _=>[]):=
 ⟨.map [],World.ownsGroups_made _ _ _ _ _,fun k _=>.inl ⟨rfl,rfl⟩⟩
def Gm.keptLow{W W':World}{base B n:Nat}{f:Nat->List Int}{row:Option Nat}(h:Gm W base B n f)(hg:W.grownBy W' row)(d:some B≠row)(e:∀j,row=some j->j<base):Gm W' base B n f:=by obtain⟨D,b,c⟩:=h;exact⟨D,b.kept hg d (b.rowsAbove e),c⟩
def Bt{k:Nat}(h:k<1000):(Lit.int .i64 (k:Int)).wf=true:=WalkArith.wf_i64 oM
def KL{xs d:List Int}(h:(ChangeShapes.lits (H:=Unit) .i64 xs)=ChangeShapes.lits .i64 d):xs=d:=by unfold ChangeShapes.lits at h;exact(List.map_inj_right (fun a b c=>by simpa using c)).1 h
def Gm.at{W:World}{base B n:Nat}{f:Nat->List Int}(h:Gm W base B n f)(hn:n<maxLen){k:Nat}(K:k<1000):∃v,(Instr.lookup 171 (.map (some B)) (.int .i64 (k:Int)) false).run Tryz.prog W = .ok v W/\W.ownsInts base 3 .i64 v (f k)/\(f k).length<=n/\∀w1 v' x,W.grownBy w1 v.ownBlock->w1.ownsInts base 3 .i64 v' (f k++[x])->(v'.ownBlock=v.ownBlock\/∃g,v'.ownBlock=some g/\W.heap.size<=g) ->∃w2,(Instr.mapUpdate 171 (.map (some B)) (.int .i64 (k:Int)) v').run Tryz.prog w1 = .ok () w2/\Gm w2 base B (n+1) (fun j=>if j=k then f k++[x]else f j)/\w1.grownBy w2 (some B):=by
 obtain⟨D,y,z⟩:=h;obtain⟨v,zs,m,b,d,u,c⟩:=y.at Kt Tryz.underlying171 (lN _) hn (keyOf_int_mk Tryz.underlying3 (Bt K));have e:f k=zs:=by
  rcases z k K with ⟨r,L⟩|r
  ·rw[r]at b;rcases d.datum (H:=Unit)with ⟨i,w⟩|i
   ·rw[L,w]
   ·rw[i]at b;cases b
  ·rw[r]at b;rcases d.datum (H:=Unit)with ⟨i,w⟩|i
   ·rw[i]at b;cases b
   ·rw[i]at b;exact KL (by simpa using b)
 subst e;refine⟨v,m,d,u,fun w1 v' x hg ho hl=>?_⟩;obtain⟨w2,r1,r2,r3⟩:=c w1 v' _ hg ho (by simp;omega) hl;refine⟨w2,r1,⟨_,r2,fun j R=>?_⟩,r3⟩;have t:IsMap D:=by
  obtain⟨es,s,_,_,_,t,_⟩:=y;exact⟨_,t⟩
 by_cases l:j=k
 ·subst l
  right
  dsimp only;rw[if_pos rfl,atKey_put_same t (by first|trivial|exact True.intro|simp[q.IsKeyLit])];exact ho.datum_pos sM
 ·dsimp only;rw[if_neg l,atKey_put_other (by simp;omega)];exact z j R
def Wp{W:World}{base:Nat}{v:Value}{zs:List Int}(h:W.ownsInts base 3 .i64 v zs):Fa 3 1 W base v (zs.map ic):=by
 refine⟨Lu,?_⟩;have e:(zs.map ic).flatten=zs.map (Value.int .i64):=by
  clear h;induction zs with
  | nil=>rfl
  | cons z zs b=>rw[List.map_cons,List.flatten_cons,b];rfl
 rw[e,lL];exact h.1
end
section
open Go.RowKit Go.Shelf Go.Maps Go.Sort Go.Lib
attribute [local go_sem] Oper.semAt_some
def TC(w:X)(b g n:Nat)(os:List Int)(z:Int)(j:w.heap[b]?=I (G #[Z (I ⟨g,0,V⟩) n n] 47 (0,0)))(c:Ae w (Z (I ⟨g,0,V⟩) n n) os)(h0:0<=z)(v:z<n):Calls Tryz.prog 103 #[Y O z,S (I ⟨b,0,V⟩)] w fun e r=>e=.returned (C (os.getD z.toNat 0==0))/\Ba w r:=by
 have q:=c.len;obtain⟨i,rfl⟩:∃i:Nat,z=(i:Int):=⟨z.toNat,by omega⟩;obtain⟨y,d⟩:∃y,os[i]?=I y:=⟨os[i]' oM,gE _⟩;obtain⟨s,x,e,l,k⟩:=c.at' d;cases e;have t:=Da j (i:=0) (u:=Z (I ⟨g,0,V⟩) n n) rfl;have f:os.getD ((i:Int)).toNat 0=y:=by rw[gD,Int.toNat_natCast,d];rfl
 rw[f];have m:i<n:=oM;clear c q d f j;simp only[Nat.zero_add]at k;go_in;go_wp2;go_ret;exact⟨rfl,eR _⟩
def Fa.put1{w:X}{base g n c i:Nat}{os:List Int}(h:Fa 3 1 w base (Z (I ⟨g,0,V⟩) n c) (os.map ic))(hi:i<os.length)(z:Int):Fa 3 1 (w.setCell ⟨g,i,V⟩ (Y O z)) base (Z (I ⟨g,0,V⟩) n c) ((os.set i z).map ic):=by have b:=Fa.putAll (j:=0) (us:=[Y O z]) h (i:=i) (d:=ic (os[i])) (by rw[lP,gE hi];rfl) rfl;rw[List.map_set];simpa[Wj,ic] using b
def Fa.frz{T:TypeId}{k:Nat}{w:X}{base g n c:Nat}{cs:List (List J)}(h:Fa T k w base (Z (I ⟨g,0,V⟩) n c) cs):∃cur,w.heap[g]?=I (G cur T (0,0)):=by
 rcases h.2.2 with ⟨b,_⟩|⟨d,cap,cur,hv,_,hh,_⟩
 ·cases b
 ·cases hv;exact⟨cur,hh⟩
def oe(os:List Int)(L:List Int):Int:=L.foldl (fun o z=>max o (os.getD z.toNat 0)) 0
def AN(os L:List Int)(z:Int):oe os (L++[z])=max (oe os L) (os.getD z.toNat 0):=by unfold oe;rw[List.foldl_append];rfl
def mK{os:List Int}(b:∀v∈os,0<=v/\v<=1000)(L:List Int):0<=oe os L/\oe os L<=1000:=by
 unfold oe;have:∀(L:List Int)(o:Int),0<=o/\o<=1000->0<=L.foldl (fun o z=>max o (os.getD z.toNat 0)) o/\L.foldl (fun o z=>max o (os.getD z.toNat 0)) o<=1000:=by
  intro L;induction L with
  | nil=>intro o h;exact h
  | cons z L c =>
   intro o h;refine c _ ?_;dsimp only;have d:0<=os.getD z.toNat 0/\os.getD z.toNat 0<=1000:=by
    rw[gD];cases h9:os[z.toNat]? with
    | none=>simp
    | some v=>exact b v (lM h9)
   omega
 exact this L 0 dM
def lV(d:X)(b go n k:Nat)(os L:List Int)(e:Nat)(c:J)(W:X):Prop:=
 ∃i:Nat,i<=L.length/\c=Y O i/\e=L.length-i/\d.grownBy W (I go)/\Fa 3 1 W b (Z (I ⟨go,0,V⟩) n n) ((os.set k (oe os (L.take i))).map ic)
def SC(w:X)(x:JS×J)(b1 b2 B base l N go n:Nat)(f:Nat->List Int)(os:List Int)(k:Nat)(aR:x.1.k=(k:Int))(hv:∃a n c,x.2=Z a n c)(hm:w.heap[b1]?=I (G #[.map (I B)] 171 (0,0)))(ho:w.heap[b2]?=I (G #[Z (I ⟨go,0,V⟩) n n] 47 (0,0)))(hG:Gm w base B N f)(hN:N<1000000)(ad:Fa 3 1 w l (Z (I ⟨go,0,V⟩) n n) (os.map ic))(a2:go<base)(aZ:B≠go)(hk:k<n)(hn:n<=120)(aH:∀v∈os,0<=v/\v<=1000)(aG:os.getD k 0=0)(hf:∀z∈f k,0<=z/\z<n/\os.getD z.toNat 0≠0)(Vi:b1≠go/\b2≠go):Calls Tryz.prog 102 #[P (qh x),S (I ⟨b1,0,V⟩),S (I ⟨b2,0,V⟩)] w fun e w'=>e=.returned (C true)/\w.grownBy w' (I go)/\Fa 3 1 w' l (Z (I ⟨go,0,V⟩) n n) ((os.set k (oe os (f k)+1)).map ic):=by
 obtain⟨⟨⟨nm,sh,d,de,gx,gz,wy,ax,az,sk⟩,kk,⟨xl,xh⟩,zl,zh⟩,v⟩:=x;obtain⟨va,vn,vc,rfl⟩:=hv;dsimp only at *;subst aR;obtain⟨L,hL⟩:=gX (f k);rw[hL]at hf ⊢;have a3:∀(fn:Fn)(first cap:Array J)(w:X),(Instr.makeFunc fn first cap).run Tryz.prog w = .ok (.func fn first cap) w:=fun _ _ _ _=>rfl;have ap:=ad.len;rw[lL]at ap;have aB:=Aa ap.symm;clear ap;unfold qh;dsimp only;obtain⟨R,hR⟩:∃R:Ending->X->Prop,(fun e w'=>e=.returned (C true)/\w.grownBy w' (I go)/\Fa 3 1 w' l (Z (I ⟨go,0,V⟩) n n) ((os.set k (oe os L+1)).map ic))=R:=⟨_,rfl⟩;rw[hR];have HR:=Aa hR;have hA:w.grownBy (w.alloc (G #[.string nm,Z va vn vc,Y O d,Y O de,Y O gx,Y O gz,Y O wy,Y O ax,Y O az,Y .u8 sk,Y O k,Y O xl,Y O xh,Y O zl,Y O zh] 113)) V:=World.grownBy_alloc _ _ _;obtain⟨v1,aq,ab,al,-⟩:=(hG.keptLow hA sM (fun j h=>by cases h)).at (by unfold maxLen;omega) (k:=k) oM;rw[hL]at ab al;have hC:=Aa (fun(W:X)(hW:Ba w W)(b':Nat)(v:J)(h:Ae W v L)=>oF W v L b2 (fun z=>os.getD z.toNat 0==0) h (fun W' aD z hz=>TC W' b2 go n os z ((hW.trans aD).e ho) ((ad.ext (hW.trans aD)).is) (hf z hz).1 (hf z hz).2.1));have hany:(L.any fun z=>os.getD z.toNat 0==0)=false:=by
  rw[List.any_eq_false];intro z hz;simpa using (hf z hz).2.2
 rw[hany]at hC;have m0:=Da hm (i:=0) (u:=.map (I B)) rfl;have o0:=Da ho (i:=0) (u:=Z (I ⟨go,0,V⟩) n n) rfl;have zm:=Ya hm;have zo:=Ya ho;have bc:b1<w.heap.size+1:=oM;have bg:b2<w.heap.size+1:=oM;have HG:=Aa hG;have an:=Aa ad;have au:=Aa ho;have aK:=Aa hm;have HL:=Aa hL;have Hf:=Aa hf;have aA:=Aa aH;have av:=Aa aG;have af:=Aa ((Wp ab).is);clear hG ad ho hm hL hf hR hany aH ab al aG;go_in;go_wp2_with(go_at_call 37;refine cM (hC.o _ eA b1 _ af.o) ?_;rintro e w2 ⟨rfl,r⟩;obtain⟨v2,aU,q,am,-⟩:=((HG.o.keptLow hA sM (fun j h=>by cases h)).keptLow (Lk (io _ V) (r.belowB (nE _))) sM (fun j h=>by cases h)).at (by unfold maxLen;omega) (k:=k) oM;rw[HL.o]at q am;obtain⟨la,ln,lc,rfl⟩:=(Wp q).i;obtain⟨aP,aQ⟩:=r.cells;have z2:=r.size;simp only[wZ]at z2;have be:b1<w2.heap.size:=oM;have bh:b2<w2.heap.size:=oM;have ba:w.heap.size<w2.heap.size:=oM);have aE:w.grownBy w2 (I go):=Lk (io w (I go)) ((((eR w).alloc _).trans r).belowB (nE _));have X2:Ba w w2:=((eR w).alloc _).trans r;have K3:=r.e (aN w (G #[.string nm,Z va vn vc,Y O d,Y O de,Y O gx,Y O gz,Y O wy,Y O ax,Y O az,Y .u8 sk,Y O k,Y O xl,Y O xh,Y O zl,Y O zh] 113));have aL:=Aa (X2.e au.o);have aC:=Aa (an.o.ext X2);have m:=Aa (show ln=L.length by have:=(Wp q).len;rw[lL]at this;exact this);have ag:=Aa q;have aI:=Aa K3;have aJ:=Aa aE;have aW:ln<=1000000:=by have:=m.o;omega
 have aO:w.heap.size≠go:=by
  intro e;have:=(an.o.lt go rfl).2;omega
 clear aP aQ r X2 hA q K3 aE HG hC af aq an au aK HL am m0 o0;go_loopg [18] ln (lV w2 l go n k os L)
 case atStart =>
  refine⟨0,by omega,rfl,by rw[m.o];rfl,io _ _,?_⟩;rw[List.take_zero,show oe os []=0 from rfl];have e:os.set k 0=os:=by
   apply List.ext_getElem?;intro j;rw[List.getElem?_set];split
   ·rename_i h;subst h;have:=av.o;rw[gD]at this;split
    ·rename_i h2;rw[gE h2]at this ⊢;simpa using this.symm
    ·rw[List.getElem?_eq_none oM]
   ·rfl
  rw[e];exact aC.o
 case round =>
  obtain⟨i,hi,rfl,rfl,hg,b⟩:=hrel;rw[<-m.o]at hi;have a4:=hg.size;have ai:=(hg.block w.heap.size oM (by simp;omega)).trans aI.o;have ak:=(hg.block b2 oM (by simp;omega)).trans aL.o;have aX:=Da ai (i:=10) (u:=Y O k) rfl;have c0:=Da ak (i:=0) (u:=Z (I ⟨go,0,V⟩) n n) rfl;obtain⟨cur,aj⟩:=b.frz;have a1:=Za aj;obtain⟨t,ac⟩:=gX (oe os (L.take i));rw[ac]at b;have aT:=mK aA.o (L.take i);rw[ac]at aT;have ao:k<os.length:=by rw[aB.o];exact hk
  have ck:=b.cell (i:=k) (j:=0) (u:=Y O t) (by rw[lP,List.getElem?_set_self ao];rfl) rfl;rw[Nat.mul_one,Nat.add_zero]at ck;have bb:=(b.lt go rfl).2;have aa:=Aa b;have Hg:=Aa hg;have aw:=Aa ac;have bi:w.heap.size<wr.heap.size:=oM;have bj:b2<wr.heap.size:=oM;have a8:(0:Int)<=(k:Int):=oM;have a9:(k:Int)<(n:Int):=oM;clear ai ak aj b ac;by_cases aS:i<ln
  ·obtain⟨z,hz⟩:∃z,L[i]?=I z:=⟨L[i]'(by rw[<-m.o];exact aS),gE _⟩;obtain⟨z0,z1,ar⟩:=Hf.o z (lM hz);obtain⟨zi,rfl⟩:∃zi:Nat,z=(zi:Int):=⟨z.toNat,by omega⟩;obtain⟨y,hy⟩:∃y,os[zi]?=I y:=⟨os[zi]'(by rw[aB.o];omega),gE _⟩;have ae:os.getD zi 0=y:=by rw[gD,hy];rfl
   rw[Int.toNat_natCast,ae]at ar;have aV:k≠zi:=by intro e;subst e;exact ar (ae.symm.trans av.o)
   have a7:=aA.o y (lM hy);have aF:=(Wp (ag.o.kept hg (.inr (by intro e;have:=(ag.o.1.lt _ e).1;omega)))).is;obtain⟨b',o',rfl,a0,d0⟩:=aF.at' hz;have cz:=aa.o.cell (i:=zi) (j:=0) (u:=Y O y) (by rw[lP,List.getElem?_set_ne aV,hy];rfl) rfl;rw[Nat.mul_one,Nat.add_zero]at cz;have aM:=Aa (show oe os (L.take (i+1))=max t y by rw[Ce _ _ _ hz,AN,aw.o,Int.toNat_natCast,ae]);have bf:zi<n:=oM;have aY:((zi:Int)).toNat=zi:=Int.toNat_natCast _;clear hz aF hy hg ar ae;go_wp2;refine Ai (fun i=>decide (13<i)) (Ea [(⟨b2,0,V⟩,Z (I ⟨go,0,V⟩) n n),(⟨w.heap.size,10,V⟩,Y O k),(⟨go,k,V⟩,Y O t),(⟨go,zi,V⟩,Y O y)]) kM ?_ (fun s=>?_)
   ·exact cA
   refine sN 0 ?_
   iterate 12 refine qi ?_
   refine oN ?_;refine kd (i:=12) fun K hK=>?_;go_simp;refine kO hK (fun _=>s) (fun s=>?_);clear hK K;have s:=s rfl;refine oo (i:=13) ?_;refine kd (i:=14) fun K hK=>?_;go_simp;refine kO hK (fun h=>nomatch h) (fun s=>?_);clear hK K;refine Jb kM ?_ _;clear s;go_wp2;go_roundg (ln-(i+1))
   case measure=>have:=m.o;omega
   case rel =>
    have h1:=aa.o.put1 (i:=k) (by rw[List.length_set];exact ao) (max t y);rw[List.set_set]at h1;have h2:=uk Hg.o k (Y O (max t y));refine⟨i+1,by rw[<-m.o];omega,by go_num,by rw[<-m.o],Lk h2 ((eR _).drew.belowB h2.size),?_⟩;rw[aM.o];exact h1.ext (eR _).drew
  ·obtain rfl:i=ln:=oM;have ah:L.take i=L:=lT (by rw[<-m.o];exact nE _);have ay:=Aa (show oe os L=t by rw[<-aw.o,ah]);have a5:IntKind.i64.wrap (t+1)=t+1:=iW _ ⟨by omega,by omega⟩;have a6:wrap64 (t+1)=t+1:=IntWalk.wrap64_in _ ⟨by omega,by omega⟩;clear ah;go_wp2;rw[<-HR.o];have h1:=aa.o.put1 (i:=k) (by rw[List.length_set];exact ao) (t+1);rw[List.set_set]at h1;exact⟨rfl,uk (aJ.o.trans Hg.o) k (Y O (t+1)),by rw[ay.o];exact h1⟩
end
section
open Go.RowKit Go.Shelf Go.Sort
section
variable {p o:Pl} (hp:Ia p=true) (ho:Ia o=true)
include hp ho
end
set_option linter.unusedSectionVars false
section
variable {g:LP} {ps:List Pl} {p:Pl} (h0:Fb g ps=0) (hp:Ia p=true) (hh:te g p=true) (hc:Ff g ps p=true)
include h0 hp hh hc
end
def Vi:(0:Rat)<1/2:=by decide +kernel
end
section
open Go.RowKit Go.Shelf Go.Maps Go.Sort Go.Lib
def Vf(ks:List (JS×J))(z:Int):Bool:=decide (0<=z)&&ks.any fun x=>x.1.k==z
def Sf(ks:List (JS×J))(b:List Be)(q:Nat):List Int:=((b.take q).map (·.num)).filter (Vf ks)
def tN{ks:List (JS×J)}{d:List Be}{q:Nat}{b:Be}(h:d[q]?=I b):Sf ks d (q+1)=Sf ks d q++(if Vf ks b.num=true then [b.num]else []):=by
 unfold Sf;rw[Ce _ _ _ h,List.map_append,List.filter_append]
 congr 1
 by_cases c:Vf ks b.num=true
 ·rw[if_pos c];simp[c]
 ·rw[if_neg c];simp[c]
def Dh(f:Nat->List Int)(k:Nat)(L:List Int):Nat->List Int:=fun j=>if j=k then f k++L else f j
def XM(f:Nat->List Int)(k:Nat):Dh f k []=f:=by
 funext j
 unfold Dh;split
 ·rename_i h;rw[h,List.append_nil]
 ·rfl
def rN(f:Nat->List Int)(k:Nat)(L:List Int)(z:Int):(fun j=>if j=k then Dh f k L k++[z]else Dh f k L j)=Dh f k (L++[z]):=by
 funext j
 unfold Dh;by_cases h:j=k
 ·simp[h]
 ·simp[h]
def mh(base B:Nat)(W0 W:X):Prop:=(W0.heap.size<=W.heap.size/\W.os=W0.os/\W.tape=W0.tape/\W.output=W0.output)/\∀b o,W0.heap[b]?=I o->b≠B->(b<base\/∀cs fr,o ≠ G cs 3 fr)->W.heap[b]?=I o
def mh.refl(base B:Nat)(W:X):mh base B W W:=⟨⟨nE _,rfl,rfl,rfl⟩,fun _ _ h _ _=>h⟩
def mh.trans{base B:Nat}{W0 W1 c:X}(h:mh base B W0 W1)(k:mh base B W1 c):mh base B W0 c:=
 ⟨⟨nT h.1.1 k.1.1,k.1.2.1.trans h.1.2.1,k.1.2.2.1.trans h.1.2.2.1,k.1.2.2.2.trans h.1.2.2.2⟩,fun b o e d ho=>k.2 b o (h.2 b o e d ho) d ho⟩
def mh.ofExt{base B:Nat}{W0 W:X}(h:Ba W0 W):mh base B W0 W:=⟨⟨h.size,h.os,h.tape,h.output⟩,fun _ _ b _ _=>h.e b⟩
def mh.ofMap{base B:Nat}{W0 W:X}(h:W0.grownBy W (I B)):mh base B W0 W:=⟨⟨h.size,h.os,h.tape,h.output⟩,fun b o c d _=>(h.block b (Ya c) (by simpa using d)).trans c⟩
def mh.ofRow{base B:Nat}{W0 W:X}{v:J}{cs:List (List J)}(ho:Fa 3 1 W0 base v cs)(h:W0.grownBy W v.ownBlock):mh base B W0 W:=
 ⟨⟨h.size,h.os,h.tape,h.output⟩,fun b o c f hc=>(h.block b (Ya c) (fun e=>by
  rcases hc with hc|hc
  ·have:=(ho.lt b e.symm).1;omega
  ·rcases ho.2.2 with ⟨d,_⟩|⟨g,cap,cur,hv,_,hh,_⟩
   ·rw[d]at e;cases e
   ·rw[hv]at e;cases e;rw[c]at hh;cases hh;exact hc _ _ rfl)).trans c⟩
def mh.ext{base B:Nat}{w W0 W:X}(h:mh base B W0 W)(k:Ba w W0)(d:w.heap.size<=base)(c:w.heap.size<=B):Ba w W:=
 ⟨h.1.2.1.trans k.os,h.1.2.2.1.trans k.tape,h.1.2.2.2.trans k.output,nT k.size h.1.1,fun i b=>by
  have e:w.heap[i]?=I (w.heap[i]'b):=Array.getElem?_eq_getElem b;rw[e];exact h.2 i _ (k.e e) oM (.inl oM)⟩
def mh.keepT{base B:Nat}{W0 W:X}{T:TypeId}(h:mh base B W0 W)(f:T≠3)(i:∀cs fr,W0.heap[B]?≠I (G cs T fr)):Ka T W0 W:=fun b j fr c =>
 h.2 b _ c (fun e=>by subst e;exact i _ _ c) (.inr fun cs d e=>by cases e;exact f rfl)
def Gm.map{W:X}{base B n:Nat}{f:Nat->List Int}(h:Gm W base B n f):∃es clock,W.heap[B]?=I (.map es clock):=by obtain⟨D,⟨es,clock,b,_⟩,_⟩:=h;exact⟨es,clock,b⟩
def Gm.notCells{W:X}{base B n:Nat}{f:Nat->List Int}(h:Gm W base B n f){T:TypeId}:∀cs fr,W.heap[B]?≠I (G cs T fr):=fun cs fr e=>by
 obtain⟨d,b,c⟩:=h.map;rw[c]at e;cases e
def Gm.ext{W W':X}{base B n:Nat}{f:Nat->List Int}(h:Gm W base B n f)(k:Ba W W'):Gm W' base B n f:=
 h.keptLow (Lk (io W V) (k.belowB (nE _))) sM (fun j b=>by cases b)
def DU(_:X)(c:List J)(b:Be):Prop:=∃a m c1 s a2 m2 c2 b1 n k t b2 n2 k2 a' m' c' s' a2' m2' c2' b' n' k' t' b2' n2' k2' e1 e2 e3 e4,c=[Y O b.num,Z a m c1,C s,Z a2 m2 c2,Z b1 n k,C t,Z b2 n2 k2,Z a' m' c',C s',Z a2' m2' c2',Z b' n' k',C t',Z b2' n2' k2',Y O e1,Y O e2,Y O e3,Y O e4]
abbrev En(w:X)(v:J)(bs:List Be):Prop:=Sl 185 17 DU w v bs
def Qd.bes{w:X}{base:Nat}{v:J}{r:List Be}(h:Qd w base v r):En w v r:=by obtain⟨cs,h1,h2,h3⟩:=h;refine Fa.sl h1 h2 (fun i c x hc hx=>?_);obtain⟨a,m,W,s,y,m2,c2,K,n,k,t,L,n2,k2,u,m',R,s',b,l,f,z,n',k',t',d,q,j,e⟩:=(h3 i c x hc hx).form;exact⟨a,m,W,s,y,m2,c2,K,n,k,t,L,n2,k2,u,m',R,s',b,l,f,z,n',k',t',d,q,j,_,_,_,_,e⟩
end
section
open Go.RowKit Go.Shelf Go.Maps Go.Sort Go.Lib
attribute [local go_sem] Oper.semAt_some
def iK(w:X)(x:JS×J)(b1 y B base q N go n:Nat)(f:Nat->List Int)(os:List Int)(k:Nat)(aa:x.1.k=(k:Int))(hv:∃a n c,x.2=Z a n c)(hm:w.heap[b1]?=I (G #[.map (I B)] 171 (0,0)))(ho:w.heap[y]?=I (G #[Z (I ⟨go,0,V⟩) n n] 47 (0,0)))(hG:Gm w base B N f)(hN:N<1000000)(l:Fa 3 1 w q (Z (I ⟨go,0,V⟩) n n) (os.map ic))(hk:k<n)(hn:n<=120)(hf:∀z∈f k,0<=z/\z<n)(r:∃z∈f k,os.getD z.toNat 0=0):Calls Tryz.prog 102 #[P (qh x),S (I ⟨b1,0,V⟩),S (I ⟨y,0,V⟩)] w fun e w'=>e=.returned (C false)/\Ba w w':=by
 obtain⟨⟨⟨nm,sh,d,de,gx,gz,wy,ax,az,sk⟩,kk,⟨xl,xh⟩,zl,zh⟩,v⟩:=x;obtain⟨va,vn,vc,rfl⟩:=hv;dsimp only at *;subst aa;obtain⟨L,hL⟩:=gX (f k);rw[hL]at hf r;have ah:∀(fn:Fn)(first cap:Array J)(w:X),(Instr.makeFunc fn first cap).run Tryz.prog w = .ok (.func fn first cap) w:=fun _ _ _ _=>rfl;have s:=l.len;rw[lL]at s;have af:=Aa s.symm;clear s;unfold qh;dsimp only;obtain⟨R,hR⟩:∃R:Ending->X->Prop,(fun e w'=>e=.returned (C false)/\Ba w w')=R:=⟨_,rfl⟩;rw[hR];have HR:=Aa hR;have hA:w.grownBy (w.alloc (G #[.string nm,Z va vn vc,Y O d,Y O de,Y O gx,Y O gz,Y O wy,Y O ax,Y O az,Y .u8 sk,Y O k,Y O xl,Y O xh,Y O zl,Y O zh] 113)) V:=World.grownBy_alloc _ _ _;obtain⟨v1,ab,b,m,-⟩:=(hG.keptLow hA sM (fun j h=>by cases h)).at (by unfold maxLen;omega) (k:=k) oM;rw[hL]at b m;have hC:=Aa (fun(W:X)(hW:Ba w W)(b':Nat)(v:J)(h:Ae W v L)=>oF W v L y (fun z=>os.getD z.toNat 0==0) h (fun W' K z hz=>TC W' y go n os z ((hW.trans K).e ho) ((l.ext (hW.trans K)).is) (hf z hz).1 (hf z hz).2));have hany:(L.any fun z=>os.getD z.toNat 0==0)=true:=by
  obtain⟨z,hz,h0⟩:=r;exact List.any_eq_true.2 ⟨z,hz,by simpa using h0⟩
 rw[hany]at hC;have m0:=Da hm (i:=0) (u:=.map (I B)) rfl;have o0:=Da ho (i:=0) (u:=Z (I ⟨go,0,V⟩) n n) rfl;have zm:=Ya hm;have zo:=Ya ho;have ai:b1<w.heap.size+1:=oM;have aj:y<w.heap.size+1:=oM;have HG:=Aa hG;have ag:=Aa l;have ae:=Aa ho;have ad:=Aa hm;have HL:=Aa hL;have Hf:=Aa hf;have t:=Aa ((Wp b).is);clear hG l ho hm hL hf hR hany r b m;go_in;go_wp2_with(go_at_call 37;refine cM (hC.o _ eA b1 _ t.o) ?_;rintro e w2 ⟨rfl,ac⟩);rw[<-HR.o];exact⟨rfl,((eR w).alloc _).trans ac⟩
