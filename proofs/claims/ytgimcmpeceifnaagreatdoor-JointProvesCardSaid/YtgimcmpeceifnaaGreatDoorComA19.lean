import Derived.Test.YtgimcmpeceifnaaGreatDoorComA18
import Derived.Test.YtgimcmpeceifnaaGreatDoorComA17
import Derived.Maps.GroupsBeside
import Derived.Maps.Views
set_option maxRecDepth 1000000
set_option maxHeartbeats 16000000
set_option linter.all false
open Go.IntKind renaming i64->O
open Go.Value renaming int->Y,slice->Z,bool->C,agg->P,pointer->S
open Go renaming World->X,Value->J
open Option renaming none->V,some->I
open Go.Obj renaming cells->G
namespace Go.Proofs.YtgimcmpeceifnaaGreatDoor.Cop
section
open Go.RowKit Go.Shelf Go.Sort
attribute [local go_sem] Oper.semAt_some
def fR w q v l d t j k(h:Ab w v l)(x:q.size<=1000000):Calls Tryz.prog 92 #[P #[.string q,v,Y O d,Y O t,Y O j,Y O k]] w fun e w'=>e=.returned (C (pd (Ee q) l d t j k))/\Ba w w':=by
 obtain⟨a,c,rfl⟩:=h.form;obtain⟨n,hn⟩:=gX l.length;have L:=za (fun W=>kR W q x);have R:=za (fun W (hW:Ba w W)=>ES W _ l (h.f hW));have z:=za (fun W=>Br W d 1 2000);have K:=za (fun W=>Br W t 1 10000);have HX:=za (fun W=>Br W j (-100) 100);have HZ:=za (fun W=>Br W k (-100) 100);obtain⟨cb,b⟩:=gX (pd (Ee q) l d t j k);rw[b];unfold pd Kd at b;rw[<-MC,<-JI]at b;obtain⟨nb,e1⟩:=gX (Gk q);obtain⟨f,e2⟩:=gX (Kh l);obtain⟨bd,e3⟩:=gX (Ra d 1 2000);obtain⟨i,e4⟩:=gX (Ra t 1 10000);obtain⟨s,e5⟩:=gX (Ra j (-100) 100);obtain⟨bz,e6⟩:=gX (Ra k (-100) 100);obtain⟨m,e7⟩:=gX ((j==0));obtain⟨y,e8⟩:=gX ((k==0));have e9:(j != 0)=!m:=by rw[<-e7];rfl
 have u:(k != 0)=!y:=by rw[<-e8];rfl
 rw[e1,e2,e3,e4,e5,e6,e7,e8]at b;rw[e1]at L;rw[hn,e2]at R;rw[e3]at z;rw[e4]at K;rw[e5]at HX;rw[e6]at HZ;rw[hn];have r:=za b;clear e1 e2 e3 e4 e5 e6 e7 e8 b h hn x;have hc:nb=false\/(nb=true/\f=false)\/(nb=true/\f=true/\bd=false)\/(nb=true/\f=true/\bd=true/\i=false)\/(nb=true/\f=true/\bd=true/\i=true/\m=false/\s=false)\/(nb=true/\f=true/\bd=true/\i=true/\m=false/\s=true)\/(nb=true/\f=true/\bd=true/\i=true/\m=true/\y=true)\/(nb=true/\f=true/\bd=true/\i=true/\m=true/\y=false/\s=false)\/(nb=true/\f=true/\bd=true/\i=true/\m=true/\y=false/\s=true):=by
  clear r e9 u L R z K HX HZ;cases nb<;>cases f<;>cases bd<;>cases i<;>cases m<;>cases y<;>cases s<;>simp
 rcases hc with rfl|⟨rfl,rfl⟩|⟨rfl,rfl,rfl⟩|⟨rfl,rfl,rfl,rfl⟩|⟨rfl,rfl,rfl,rfl,rfl,rfl⟩|⟨rfl,rfl,rfl,rfl,rfl,rfl⟩|⟨rfl,rfl,rfl,rfl,rfl,rfl⟩|⟨rfl,rfl,rfl,rfl,rfl,rfl,rfl⟩|⟨rfl,rfl,rfl,rfl,rfl,rfl,rfl⟩
 all_goals
  have e:=r.o;simp at e;subst e
  try simp only[Bool.not_false,Bool.not_true]at e9
  try simp only[Bool.not_false,Bool.not_true]at u
  go_in;go_wp2_with(first|(go_at_call 128;refine cM (L.o _) ?_;rintro e w1 ⟨rfl,aa⟩;obtain⟨⟨au,aA⟩,ag,ah⟩:=Nb w aa;(have X1:Ba w w1:=eA))|(go_at_call 129;refine cM (R.o w1 X1) ?_;rintro e w2 ⟨rfl,ab⟩;obtain⟨⟨av,aB⟩,ai,aj⟩:=Nb w ab)|(go_at_call 130;(with_reducible refine(z.o w2).mono ?_);rintro e w3 ⟨rfl,ac⟩;obtain⟨⟨aw,aC⟩,ak,al⟩:=Nb w ac)|(go_at_call 130;(with_reducible refine(K.o w3).mono ?_);rintro e w4 ⟨rfl,ad⟩;obtain⟨⟨ax,aD⟩,am,an⟩:=Nb w ad)|(go_at_call 130;(with_reducible refine(HX.o w4).mono ?_);rintro e w5 ⟨rfl,ae⟩;obtain⟨⟨ay,aE⟩,ao,ap⟩:=Nb w ae)|(go_at_call 130;(with_reducible refine(HZ.o w5).mono ?_);rintro e w6 ⟨rfl,af⟩;obtain⟨⟨az,aF⟩,aq,ar⟩:=Nb w af));go_ret;exact⟨rfl,eA⟩
def iw w n:Calls Tryz.prog 91 #[Y O n] w fun e d=>e=.returned (C (!Uc n))/\Ba w d:=by
 have c:(!Uc n)=(decide (-100000<=n)&&decide (n<=100000)):=by
  unfold Uc;rw[Bool.eq_iff_iff];simp
 rw[c];clear c;by_cases h:-100000<=n
 ·have b:decide (-100000<=n)=true:=by simpa using h
  go_in;go_wp2;go_ret;exact⟨by simp[b],eA⟩
 ·have b:decide (-100000<=n)=false:=by simpa using h
  go_in;go_wp2;go_ret;exact⟨by simp[b],eA⟩
def xN w v p(h:Ab w v p.shape)(aa:p.name.size<=1000000):Calls Tryz.prog 57 #[P (Dd p v)] w fun e w'=>e=.returned (C (Fa p))/\Ba w w':=by
 obtain⟨nm,l,d,de,gx,gz,wy,ax,az,sk⟩:=p;dsimp only at h aa;obtain⟨a,c,rfl⟩:=h.form;obtain⟨n,hn⟩:=gX l.length;have hV:=fun W (hW:Ba w W)=>fR W nm _ l d de gx gz (h.f hW) aa;have hX:=fun W=>iw W ax;have hZ:=fun W=>iw W az;obtain⟨cb,x⟩:=gX (Fa ⟨nm,l,d,de,gx,gz,wy,ax,az,sk⟩);rw[x];unfold Fa Ra at x;dsimp only at x;obtain⟨vb,e1⟩:=gX (pd (Ee nm) l d de gx gz);obtain⟨bx,e2⟩:=gX ((!Uc ax));obtain⟨bz,e3⟩:=gX ((!Uc az));rw[e1,e2,e3]at x;rw[e1]at hV;rw[e2]at hX;rw[e3]at hZ;have r:=za x;have HV:=za hV;have HX:=za hX;have R:=za hZ;clear e1 e2 e3 x hV hX hZ h aa;unfold Dd;dsimp only;rw[hn]at HV ⊢;clear hn;cases vb with
 |false=>
  have e:=r.o;simp at e;subst e;go_in;go_wp2_with(first|(go_at_call 92;refine cM (HV.o _ eA) ?_;rintro e j ⟨rfl,b⟩;obtain⟨⟨s,y⟩,k⟩:=Jd w b;(have X1:Ba w j:=eA))|(go_at_call 91;(with_reducible refine(HX.o j).mono ?_);rintro e L ⟨rfl,f⟩;obtain⟨⟨t,z⟩,m⟩:=Jd w f)|(go_at_call 91;(with_reducible refine(R.o L).mono ?_);rintro e w3 ⟨rfl,i⟩;obtain⟨⟨u,K⟩,q⟩:=Jd w i));go_ret;exact⟨rfl,eA⟩
 |true=>
 by_cases w0:0<=wy
 case neg =>
  have e:cb=false:=by rw[<-r.o];simp[w0]
  subst e;go_in;go_wp2_with(first|(go_at_call 92;refine cM (HV.o _ eA) ?_;rintro e j ⟨rfl,b⟩;obtain⟨⟨s,y⟩,k⟩:=Jd w b;(have X1:Ba w j:=eA))|(go_at_call 91;(with_reducible refine(HX.o j).mono ?_);rintro e L ⟨rfl,f⟩;obtain⟨⟨t,z⟩,m⟩:=Jd w f)|(go_at_call 91;(with_reducible refine(R.o L).mono ?_);rintro e w3 ⟨rfl,i⟩;obtain⟨⟨u,K⟩,q⟩:=Jd w i));go_ret;exact⟨rfl,eA⟩
 by_cases j:wy<=7
 case neg =>
  have e:cb=false:=by rw[<-r.o];simp[j]
  subst e;go_in;go_wp2_with(first|(go_at_call 92;refine cM (HV.o _ eA) ?_;rintro e j ⟨rfl,b⟩;obtain⟨⟨s,y⟩,k⟩:=Jd w b;(have X1:Ba w j:=eA))|(go_at_call 91;(with_reducible refine(HX.o j).mono ?_);rintro e L ⟨rfl,f⟩;obtain⟨⟨t,z⟩,m⟩:=Jd w f)|(go_at_call 91;(with_reducible refine(R.o L).mono ?_);rintro e w3 ⟨rfl,i⟩;obtain⟨⟨u,K⟩,q⟩:=Jd w i));go_ret;exact⟨rfl,eA⟩
 cases bx with
 |false=>
  have e:cb=false:=by rw[<-r.o];simp
  subst e;go_in;go_wp2_with(first|(go_at_call 92;refine cM (HV.o _ eA) ?_;rintro e j ⟨rfl,b⟩;obtain⟨⟨s,y⟩,k⟩:=Jd w b;(have X1:Ba w j:=eA))|(go_at_call 91;(with_reducible refine(HX.o j).mono ?_);rintro e L ⟨rfl,f⟩;obtain⟨⟨t,z⟩,m⟩:=Jd w f)|(go_at_call 91;(with_reducible refine(R.o L).mono ?_);rintro e w3 ⟨rfl,i⟩;obtain⟨⟨u,K⟩,q⟩:=Jd w i));go_ret;exact⟨rfl,eA⟩
 |true=>
 cases bz with
 |false=>
  have e:cb=false:=by rw[<-r.o];simp
  subst e;go_in;go_wp2_with(first|(go_at_call 92;refine cM (HV.o _ eA) ?_;rintro e j ⟨rfl,b⟩;obtain⟨⟨s,y⟩,k⟩:=Jd w b;(have X1:Ba w j:=eA))|(go_at_call 91;(with_reducible refine(HX.o j).mono ?_);rintro e L ⟨rfl,f⟩;obtain⟨⟨t,z⟩,m⟩:=Jd w f)|(go_at_call 91;(with_reducible refine(R.o L).mono ?_);rintro e w3 ⟨rfl,i⟩;obtain⟨⟨u,K⟩,q⟩:=Jd w i));go_ret;exact⟨rfl,eA⟩
 |true=>
 by_cases s0:1<=sk
 case neg =>
  have e:cb=false:=by rw[<-r.o];simp[s0]
  subst e;go_in;go_wp2_with(first|(go_at_call 92;refine cM (HV.o _ eA) ?_;rintro e j ⟨rfl,b⟩;obtain⟨⟨s,y⟩,k⟩:=Jd w b;(have X1:Ba w j:=eA))|(go_at_call 91;(with_reducible refine(HX.o j).mono ?_);rintro e L ⟨rfl,f⟩;obtain⟨⟨t,z⟩,m⟩:=Jd w f)|(go_at_call 91;(with_reducible refine(R.o L).mono ?_);rintro e w3 ⟨rfl,i⟩;obtain⟨⟨u,K⟩,q⟩:=Jd w i));go_ret;exact⟨rfl,eA⟩
 have e:cb=decide (sk<=3):=by rw[<-r.o];simp[w0,j,s0]
 subst e;go_in;go_wp2_with(first|(go_at_call 92;refine cM (HV.o _ eA) ?_;rintro e j ⟨rfl,b⟩;obtain⟨⟨s,y⟩,k⟩:=Jd w b;(have X1:Ba w j:=eA))|(go_at_call 91;(with_reducible refine(HX.o j).mono ?_);rintro e L ⟨rfl,f⟩;obtain⟨⟨t,z⟩,m⟩:=Jd w f)|(go_at_call 91;(with_reducible refine(R.o L).mono ?_);rintro e w3 ⟨rfl,i⟩;obtain⟨⟨u,K⟩,q⟩:=Jd w i));go_ret;exact⟨rfl,eA⟩
def Gu(w:X)(b:Int×Int)(m:Nat)(t5:J)(W:X):Prop:=
 ∃i:Nat,t5=Y O i/\i<=m/\Ba w W/\W.heap[w.heap.size]?=I (G #[Y O (Ef i b).1,Y O (Ef i b).2] 74 (0,0))/\W.heap[w.heap.size+1]?=I (G #[Y O 0,Y O 0] 74 (0,0))
def Wu{p}(h:Bd 1000000 p.1/\Bd 1000000 p.2):∀i,Bd 1000000 (Ef i p).1/\Bd 1000000 (Ef i p).2
 | 0=>h
 | i+1=>by
  have b:=Wu h i;have e:Ef (i+1) p=(-(Ef i p).2,(Ef i p).1):=rfl;rw[e];unfold Bd at *;dsimp only;omega
def oB{p}(h:Bd 1000000 p.1/\Bd 1000000 p.2) way:Bd 1000000 (If way p).1/\Bd 1000000 (If way p).2:=by
 unfold If;refine Wu ?_ _;split
 ·unfold Bd at *;dsimp only;omega
 ·exact h
def ED w p way(h0:0<=way)(h1:way<=7)(hB:Bd 1000000 p.1/\Bd 1000000 p.2):Calls Tryz.prog 150 #[P #[Y O p.1,Y O p.2],Y O way] w fun e R=>e=.returned (P #[Y O (If way p).1,Y O (If way p).2])/\Ba w R:=by
 obtain⟨x,z⟩:=p;dsimp only at hB ⊢;obtain⟨L,f⟩:=hB;obtain⟨m,hm⟩:=gX ((way%4).toNat);have ai:Int.tmod way 4=(m:Int):=by rw[Int.tmod_eq_emod_of_nonneg h0];omega
 have aj:m<=3:=oM;have Hm:=za hm;clear hm;have q:4<=way->Calls Tryz.prog 150 #[P #[Y O x,Y O z],Y O way] w fun e R=>e=.returned (P #[Y O (If way (x,z)).1,Y O (If way (x,z)).2])/\Ba w R:=by
  intro hg;have j:If way (x,z)=Ef m (-x,z):=by unfold If;rw[Hm.o];simp[hg]
  have d:=Wu (p:=(-x,z)) ⟨by unfold Bd at *;dsimp only;omega,f⟩;rw[j];have n:=za d;clear j d;unfold Bd at L f;go_in;go_wp2;go_loopw [5] (Gu w (-x,z) m) (fun t5 _=>m-(intOf t5).toNat)
  case atStart =>
   refine⟨0,rfl,by omega,eA,?_,?_⟩
   ·first|exact Ei .. | exact Dk (Ei ..) _ _
   ·exact mc _ _ _ sM
  case round =>
   obtain⟨i,rfl,hi,hx,b,c⟩:=hrel;obtain⟨⟨u,y⟩,t⟩:∃r,Ef i (-x,z)=r:=⟨_,rfl⟩;have d:=n.o i;rw[t]at b d;unfold Bd at d;dsimp only at b d;have r0:=Aa b 0 (Y O u);have r1:=Aa b 1 (Y O y);have ad:=Za b 0;have ae:=Za b 1;have s0:=Aa c 0 (Y O 0);have s1:=Aa c 1 (Y O 0);have ag:=Za c 0;have ah:=Za c 1;have sz:=Ya c;have af:=Ya b;have k:=za b;have l:=za c;have K:=za t;obtain⟨ab,ac⟩:=d;clear b c t;by_cases aa:i<m
   ·have W:(i:Int)<(m:Int):=oM;go_wp2;go_roundw
    case rel =>
     (have j:Ef (i+1) (-x,z)=(-y,u):=by rw[Ef,K.o]);refine⟨i+1,by go_num,by omega,eA,?_,?_⟩
     ·rw[j];exact Dk k.o _ _
     ·exact pq l.o oM _ _
    case measure=>simp[intOf];omega
   ·obtain rfl:i=m:=oM;have W:¬(i:Int)<(i:Int):=oM;go_wp2;exact bR (v:=P #[Y O u,Y O y]) (by simp[results,Tryz.results150,go_sem,s0,s1,sz]) rfl ⟨Uj (by rw[K.o]),eA⟩
 have s:¬4<=way->Calls Tryz.prog 150 #[P #[Y O x,Y O z],Y O way] w fun e R=>e=.returned (P #[Y O (If way (x,z)).1,Y O (If way (x,z)).2])/\Ba w R:=by
  intro hg;have j:If way (x,z)=Ef m (x,z):=by unfold If;rw[Hm.o];simp[hg]
  have d:=Wu (p:=(x,z)) ⟨by unfold Bd at *;dsimp only;omega,f⟩;rw[j];have n:=za d;clear j d;unfold Bd at L f;go_in;go_wp2;go_loopw [5] (Gu w (x,z) m) (fun t5 _=>m-(intOf t5).toNat)
  case atStart =>
   refine⟨0,rfl,by omega,eA,?_,?_⟩
   ·first|exact Ei .. | exact Dk (Ei ..) _ _
   ·exact mc _ _ _ sM
  case round =>
   obtain⟨i,rfl,hi,hx,b,c⟩:=hrel;obtain⟨⟨u,y⟩,t⟩:∃r,Ef i (x,z)=r:=⟨_,rfl⟩;have d:=n.o i;rw[t]at b d;unfold Bd at d;dsimp only at b d;have r0:=Aa b 0 (Y O u);have r1:=Aa b 1 (Y O y);have ad:=Za b 0;have ae:=Za b 1;have s0:=Aa c 0 (Y O 0);have s1:=Aa c 1 (Y O 0);have ag:=Za c 0;have ah:=Za c 1;have sz:=Ya c;have af:=Ya b;have k:=za b;have l:=za c;have K:=za t;obtain⟨ab,ac⟩:=d;clear b c t;by_cases aa:i<m
   ·have W:(i:Int)<(m:Int):=oM;go_wp2;go_roundw
    case rel =>
     (have j:Ef (i+1) (x,z)=(-y,u):=by rw[Ef,K.o]);refine⟨i+1,by go_num,by omega,eA,?_,?_⟩
     ·rw[j];exact Dk k.o _ _
     ·exact pq l.o oM _ _
    case measure=>simp[intOf];omega
   ·obtain rfl:i=m:=oM;have W:¬(i:Int)<(i:Int):=oM;go_wp2;exact bR (v:=P #[Y O u,Y O y]) (by simp[results,Tryz.results150,go_sem,s0,s1,sz]) rfl ⟨Uj (by rw[K.o]),eA⟩
 by_cases hg:4<=way
 ·exact q hg
 ·exact s hg
def Ks:(Tryz.prog.info? 74).map (fun i=>(i.zero,i.size,i.bytes))=I (I (P #[Y O 0,Y O 0]),2,16):=kM
def Ea.pr{w base v b}(h:Ea 74 2 w base v (b.map pc)):Ab w v b:=
 ⟨_,Ea.sl h sM (fun i c x hc d=>by
  rw[lP,d]at hc;cases hc;rfl)⟩
def Ni(w:X)(b:LP)(e:Ending)(w':X):Prop:=∃v,e=.returned v/\Ea 74 2 w' w.heap.size v (b.map pc)/\Ba w w'
def By{α:Type}(f:Nat->α) i:(List.range (i+1)).map f=(List.range i).map f++[f i]:=by rw[List.range_succ,List.map_append];rfl
def Is(W:X) x z:∀ j  u,[pc (x,z)].flatten[j]?=I u->(W.alloc (Obj.cells #[Value.int O (x),Value.int O (z)] 74)).cell? ((⟨W.heap.size,0,V⟩:Addr).add j)=I u:=Nx W x z _
def sU(d:X)(b:Nat)(m:Int×Int)(f:Nat->Int×Int)(n:Nat)(t3 c:J)(W:X):Prop:=
 ∃i:Nat,c=Y O i/\i<=n/\Ea 74 2 W (b+1) t3 (((List.range i).map f).map pc)/\Ba d W/\W.heap[b]?=I (Obj.cells #[Value.int O (m.1),Value.int O (m.2)] 74 (0,0))
def zS w v l(h:Ab w v l)(hB:∀q∈l,Bd 1000000 q.1/\Bd 1000000 q.2)(aa:l≠[])(hl:l.length<=1000000):Calls Tryz.prog 151 #[v] w (Ni w (nh l)):=by
 obtain⟨a,c,rfl⟩:=h.form;obtain⟨n,hn⟩:=gX l.length;have am:0<n:=by rw[<-hn];exact List.length_pos_iff.2 aa
 have f:=fun W (hW:Ba w W)=>DD W _ l (h.f hW) aa;have s:=fun W (hW:Ba w W)=>mG W _ l (h.f hW);have ak:Tc l n<n:=by
  rw[<-hn];have e:=Dx l (n-1) oM;rw[show n-1+1=n by omega]at e;rw[hn];exact e.1
 have u:Bd 1000000 (Ta l).1/\Bd 1000000 (Ta l).2:=by
  rw[<-Px aa];have:∀i,i<=l.length->Bd 1000000 (Vi l i).1/\Bd 1000000 (Vi l i).2:=by
   intro i;induction i with
   | zero=>intro _;exact hB _ (Si oM)
   | succ i ih =>
    intro hi;have h1:=ih oM;have h2:=hB _ (Si (l:=l) (i:=i) oM);have e:Vi l (i+1)=(min (Vi l i).1 (Qa l i).1,min (Vi l i).2 (Qa l i).2):=rfl;rw[e];unfold Bd at *;dsimp only;omega
  exact this _ (nE _)
 have K:nh l=(List.range n).map fun i=>((Qa l ((Tc l n+i)%n)).1-(Ta l).1,(Qa l ((Tc l n+i)%n)).2-(Ta l).2):=by unfold nh;rw[hn]
 rw[K];rw[hn]at f s hl ⊢;obtain⟨⟨L,mz⟩,hm⟩:∃m,Ta l=m:=⟨_,rfl⟩;obtain⟨f0,ac⟩:=gX (Tc l n);rw[hm]at f u ⊢;rw[ac]at s ak ⊢;dsimp only at f u ⊢;obtain⟨F,hF⟩:∃F:Nat->Int×Int,(fun i=>((Qa l ((f0+i)%n)).1-L,(Qa l ((f0+i)%n)).2-mz))=F:=⟨_,rfl⟩;rw[hF];have HF:=za hF;have aj:=za f;have ai:=za s;have Hn:=za hn;have H:=za h;have HB:=za hB;unfold Bd at u;obtain⟨ax,ay⟩:=u;clear f s hn h hB K hm ac hF;go_in;go_wp2_with(first|(go_at_call 172;refine cM (aj.o _ (eR _)) ?_;rintro e w1 ⟨rfl,ag⟩)|(go_at_call 173;refine cM (ai.o _ ag) ?_;rintro e w2 ⟨rfl,an⟩));have X2:Ba w w2:=ag.trans an;go_loopw [3,6] (sU w2 w2.heap.size (L,mz) F n) (fun _ t6 _=>n-(intOf t6).toNat)
 case atStart=>exact⟨0,rfl,by omega,Ea.nil _ _ _ _,(eR _).alloc _,aN _ _⟩
 case round =>
  obtain⟨g4,al⟩:=gX w2.heap.size;rw[al]at hrel ⊢;obtain⟨i,rfl,hi,j,hx,hb⟩:=hrel;have p0:=Aa hb 0 (Y O L);have p1:=Aa hb 1 (Y O mz);have pz:=Ya hb;have Hb:=za hb;have XW:Ba w wr:=X2.trans hx;obtain⟨va,vn,vc,rfl⟩:=j.i;have d:=za j;have aA:=X2.size;clear hb j;by_cases aw:i<n
  ·obtain⟨k,hk⟩:=gX ((f0+i)%n);have ae:k<n:=by rw[<-hk];exact Nat.mod_lt _ am
   have av:Int.tmod ((f0:Int)+(i:Int)) (n:Int)=(k:Int):=by rw[Int.tmod_eq_emod_of_nonneg oM,<-hk,Int.natCast_emod];rfl
   obtain⟨b,o,rfl,au,c0,c1⟩:=(H.o.f XW).pt (i:=k) (by rw[Hn.o];exact ae);have bk:=HB.o _ (Si (l:=l) (i:=k) (by rw[Hn.o];exact ae));have r:F i=((Qa l k).1-L,(Qa l k).2-mz):=by rw[<-HF.o,<-hk]
   obtain⟨⟨x,z⟩,hq⟩:∃q,Qa l k=q:=⟨_,rfl⟩;rw[hq]at c0 c1 bk r;unfold Bd at bk;dsimp only at c0 c1 bk r;obtain⟨aq,ar⟩:=bk;have ah:=za r;have g0:(0:Int)<=(k:Int):=oM;have g1:(k:Int)<(n:Int):=oM;have g2:(i:Int)<(n:Int):=oM;have az:¬(n:Int)=0:=oM;have ap:¬n=0:=oM;clear hk hq r;go_wp2_with(at_builtin;refine Mi (T:=74) (t:=22) (z:=P #[Y O 0,Y O 0]) (k:=2) (bytes:=16) (base:=g4+1) (v:=Z va vn vc) (m:=1) (c:=1) (ad:=⟨wr.heap.size+1,0,V⟩) Ks rfl dM dM Tryz.underlying22 rfl _ _ rfl rfl (d.o.ext (((eR wr).alloc _).alloc _)) rfl [pc (x-L,z-mz)] rfl (by simp[pc]) (by simpa using Is (wr.alloc (Obj.cells #[Value.int O (x),Value.int O (z)] 74)) (x-L) (z-mz)) (Pp (x-L) (z-mz)) (by rw[lL,lL,List.length_range];omega) (by simp only[wZ];omega) ?_;intro v' w5 ab R ao);go_roundw
   case rel =>
    have af:=d.o.lt;have y:Below (g4+1) wr w5:=((Below.refl _ wr).alloc oM (Obj.cells #[Value.int O (x),Value.int O (z)] 74) |>.alloc (by simp;omega) (Obj.cells #[Value.int O (x-L),Value.int O (z-mz)] 74)).trans (Yg R (by simp;omega) (fun k hk=>(af k hk).1));refine⟨i+1,by go_num,by omega,?_,hx.D y oM,?_⟩
    ·rw[By,List.map_append,ah.o];exact ab
    ·rw[y.block _ oM];exact Hb.o
   case measure=>simp[intOf];omega
  ·obtain rfl:i=n:=oM;have g2:¬(i:Int)<(i:Int):=oM;go_wp2;go_ret;exact⟨_,rfl,d.o.mono oM,XW⟩
def rA(w:X)(b c:Obj)(f:Nat->Int×Int)(n:Nat)(t5 d:J)(W:X):Prop:=
 ∃i:Nat,d=Y O i/\i<=n/\Ea 74 2 W (w.heap.size+1+1) t5 (((List.range i).map f).map pc)/\Ba w W/\W.heap[w.heap.size]?=I b/\W.heap[w.heap.size+1]?=I c
def xu(w:X)(f:ByteArray)(d b:Int)(g:Int×Int)(c:LP)(e:Ending)(w':X):Prop:=
 ∃v',e=.returned (P #[.string f,v',Y O d,Y O b,Y O g.1,Y O g.2])/\Ea 74 2 w' w.heap.size v' (c.map pc)/\Ba w w'
def tP w nm v l d de gx gz way(h:Ab w v l)(hB:∀q∈l,Bd 1000000 q.1/\Bd 1000000 q.2)(aB:l≠[])(hl:l.length<=1000000)(h0:0<=way)(h1:way<=7)(aw:Bd 1000000 gx)(ax:Bd 1000000 gz):Calls Tryz.prog 110 #[P #[.string nm,v,Y O d,Y O de,Y O gx,Y O gz],Y O way] w (xu w nm d de (If way (gx,gz)) (Eg way l)):=by
 obtain⟨a,c,rfl⟩:=h.form;obtain⟨n,hn⟩:=gX l.length;have aR:0<n:=by rw[<-hn];exact List.length_pos_iff.2 aB
 obtain⟨F,hF⟩:∃F:Nat->Int×Int,(fun i=>If way (Qa l (if 4<=way then n-1-i else i)))=F:=⟨_,rfl⟩;obtain⟨u,s⟩:=gX ((List.range n).map F);have ai:Eg way l=nh u:=by unfold Eg;rw[hn,hF,s]
 have ah:u.length=n:=by rw[<-s];simp
 have ap:∀q∈u,Bd 1000000 q.1/\Bd 1000000 q.2:=by
  rw[<-s];intro q hq;obtain⟨i,hi,rfl⟩:=List.mem_map.1 hq;rw[<-hF];have hi:=List.mem_range.1 hi;refine oB (hB _ (Si ?_)) _;split<;>omega
 rw[ai];obtain⟨⟨g1,g2⟩,hg⟩:∃g,If way (gx,gz)=g:=⟨_,rfl⟩;have ak:=fun W=>ED W (gx,gz) way h0 h1 ⟨aw,ax⟩;rw[hg]at ak ⊢;dsimp only at ak;have aF:=za ak;have HF:=za hF;have am:=za s;have aK:=za ap;have aL:=za ah;have Hn:=za hn;have H:=za h;have HB:=za hB;rw[hn]at hl ⊢;have aC:=fun W vv (hv:Ab W vv u)=>zS W vv u hv ap (by intro e;rw[e]at ah;simp at ah;omega) (by rw[ah];exact hl);have aG:=za aC;clear hg ak hF s ap ah hn h hB ai aC aw ax aB;go_in;go_wp2;go_loopw [5,6] (rA w (Obj.cells #[Value.string nm,Value.slice a n c,Value.int O d,Value.int O de,Value.int O gx,Value.int O gz] 76) (Obj.cells #[Value.string ⟨#[]⟩,Value.slice V 0 0,Value.int O 0,Value.int O 0,Value.int O 0,Value.int O 0] 76) F n) (fun _ t6 _=>n-(intOf t6).toNat)
 case atStart=>exact⟨0,rfl,by omega,Ea.nil _ _ _ _,eA,Ei ..,mc _ _ _ sM⟩
 case round =>
  obtain⟨i,rfl,hi,ag,hx,hb,an⟩:=hrel;have p0:=Aa hb 0 (.string nm);have p1:=Aa hb 1 (Z a n c);have p2:=Aa hb 2 (Y O d);have p3:=Aa hb 3 (Y O de);have p4:=Aa hb 4 (Y O gx);have p5:=Aa hb 5 (Y O gz);have pz:=Ya an;have Hb:=za hb;have R:=za an;obtain⟨va,vn,vc,rfl⟩:=ag.i;have ac:=za ag;clear hb an ag;by_cases aQ:i<n
  ·obtain⟨k,hk⟩:=gX ((if 4<=way then n-1-i else i));have ay:k<n:=by rw[<-hk];split<;>omega
   obtain⟨b,o,rfl,aM,c0,c1⟩:=(H.o.f hx).pt (i:=k) (by rw[Hn.o];exact ay);have bk:=HB.o _ (Si (l:=l) (i:=k) (by rw[Hn.o];exact ay));have aj:F i=If way (Qa l k):=by rw[<-HF.o,<-hk]
   obtain⟨⟨x,z⟩,hq⟩:∃q,Qa l k=q:=⟨_,rfl⟩;rw[hq]at c0 c1 bk aj;dsimp only at c0 c1 bk;have al:=fun W=>ED W (x,z) way h0 h1 bk;obtain⟨⟨y1,y2⟩,hy⟩:∃y,If way (x,z)=y:=⟨_,rfl⟩;rw[hy]at al aj;dsimp only at al;have ar:=za aj;have au:=za al;have k0:(0:Int)<=(k:Int):=oM;have k1:(k:Int)<(n:Int):=oM;have k2:(i:Int)<(n:Int):=oM;clear hq aj hy al;by_cases aD:4<=way
   ·(have aP:(n:Int)-1-(i:Int)=(k:Int):=by rw[<-hk,if_pos aD];omega);clear hk;go_wp2_with(first|(go_at_call 150;refine cM (au.o wr) ?_;rintro e w4 ⟨rfl,ab⟩)|(at_builtin;refine Mi (T:=74) (t:=22) (z:=P #[Y O 0,Y O 0]) (k:=2) (bytes:=16) (base:=w.heap.size+1+1) (v:=Z va vn vc) (m:=1) (c:=1) (ad:=⟨w4.heap.size,0,V⟩) Ks rfl dM dM Tryz.underlying22 rfl _ _ rfl rfl (ac.o.ext (ab.alloc _)) rfl [pc (y1,y2)] rfl (by simp[pc]) (Is w4 y1 y2) (Pp y1 y2) (by rw[lL,lL,List.length_range];omega) (by have:=ab.size;simp only[wZ];omega) ?_;intro v' w5 af ae az));go_roundw
    case rel =>
     have L:=ac.o.lt;have aI:=ab.size;have r:Below (w.heap.size+1+1) wr w5:=((ab.below oM).alloc oM (Obj.cells #[Value.int O (y1),Value.int O (y2)] 74)).trans (Yg ae (by simp;omega) (fun k hk=>(L k hk).1));refine⟨i+1,by go_num,by omega,?_,hx.D r oM,?_,?_⟩
     ·rw[By,List.map_append,ar.o];exact af
     ·rw[r.block _ oM];exact Hb.o
     ·rw[r.block _ oM];exact R.o
    case measure=>simp[intOf];omega
   ·(obtain rfl:i=k:=by rw[<-hk,if_neg aD]);clear hk;go_wp2_with(first|(go_at_call 150;refine cM (au.o wr) ?_;rintro e w4 ⟨rfl,ab⟩)|(at_builtin;refine Mi (T:=74) (t:=22) (z:=P #[Y O 0,Y O 0]) (k:=2) (bytes:=16) (base:=w.heap.size+1+1) (v:=Z va vn vc) (m:=1) (c:=1) (ad:=⟨w4.heap.size,0,V⟩) Ks rfl dM dM Tryz.underlying22 rfl _ _ rfl rfl (ac.o.ext (ab.alloc _)) rfl [pc (y1,y2)] rfl (by simp[pc]) (Is w4 y1 y2) (Pp y1 y2) (by rw[lL,lL,List.length_range];omega) (by have:=ab.size;simp only[wZ];omega) ?_;intro v' w5 af ae az));go_roundw
    case rel =>
     have L:=ac.o.lt;have aI:=ab.size;have r:Below (w.heap.size+1+1) wr w5:=((ab.below oM).alloc oM (Obj.cells #[Value.int O (y1),Value.int O (y2)] 74)).trans (Yg ae (by simp;omega) (fun k hk=>(L k hk).1));refine⟨i+1,by go_num,by omega,?_,hx.D r oM,?_,?_⟩
     ·rw[By,List.map_append,ar.o];exact af
     ·rw[r.block _ oM];exact Hb.o
     ·rw[r.block _ oM];exact R.o
    case measure=>simp[intOf];omega
  ·obtain rfl:i=n:=oM;have k2:¬(i:Int)<(i:Int):=oM;have aS:=Za Hb.o 1;have aT:=Za Hb.o 4;have aU:=Za Hb.o 5;have s0:=Aa R.o 0 (.string ⟨#[]⟩);have s1:=Aa R.o 1 (Z V 0 0);have s2:=Aa R.o 2 (Y O 0);have s3:=Aa R.o 3 (Y O 0);have s4:=Aa R.o 4 (Y O 0);have s5:=Aa R.o 5 (Y O 0);have sf:=Za R.o;have L:Ab wr (Z va vn vc) u:=by rw[<-am.o];exact ac.o.pr
   have av:=za L;have zz:w.heap.size<wr.heap.size:=oM;clear L;go_wp2;refine Ti (fun i=>decide (6<i)) (Da [(⟨w.heap.size,4,V⟩,Y O gx),(⟨w.heap.size,5,V⟩,Y O gz)]) kM ?_ (fun f=>?_)
   ·exact cA
   refine so (i:=0) ?_;refine sN 2 ?_
   iterate 3 refine Ui ?_
   refine oN ?_;refine Ed (i:=1) fun K hK=>?_;go_simp;refine cM (aG.o _ _ (av.o.f (eR wr).drew)) ?_;rintro e w8 ⟨v8,rfl,ao,aE⟩;obtain⟨a8,n8,c8,rfl⟩:=ao.i;go_wp2;refine kO hK (fun _=>cE f aE) (fun f=>?_);clear hK K;replace f:=f rfl;refine so (i:=6) ?_;refine Ed (i:=5) fun K hK=>?_;go_simp;refine cM (aF.o w8) ?_;rintro e w9 ⟨rfl,aq⟩;go_wp2;refine kO hK (fun _=>cE f aq) (fun f=>?_);clear hK K;replace f:=f rfl;have X9:Ba wr w9:=(eR wr).drew.trans (aE.trans aq);obtain⟨aH,aO⟩:=X9.cells;have aV:w.heap.size<w9.heap.size:=X9.lt zz;have aJ:w.heap.size+1<w9.heap.size:=X9.lt pz;refine Ed (i:=7) fun K hK=>?_;go_simp;refine kO hK (fun h=>nomatch h) (fun f=>?_);clear hK K;refine Ed (i:=8) fun K hK=>?_;go_simp;refine kO hK (fun h=>nomatch h) (fun f=>?_);clear hK K;refine Ed (i:=9) fun K hK=>?_;go_simp;refine kO hK (fun h=>nomatch h) (fun f=>?_);clear hK K;refine Ub kM ?_ _;go_wp2;refine bR (v:=P #[.string nm,Z a8 n8 c8,Y O d,Y O de,Y O g1,Y O g2]) (by simp[results,Tryz.results110,go_sem,aH,pz,aJ,s0,s1,s2,s3,s4,s5]) rfl ⟨_,rfl,?_,eA⟩;have k8:Ea 74 2 w9 w.heap.size (Z a8 n8 c8) ((nh u).map pc):=(ao.ext aq).mono (by have:=hx.size;simp only[Yb];omega);have aA:∀j,(Value.slice a8 n8 c8).ownBlock=I j->wr.heap.size<=j:=fun j hj=>(ao.lt j hj).1;have aa:∀q:Nat,q<wr.heap.size->(Value.slice a8 n8 c8).ownBlock≠I q:=fun q hq e=>by have:=aA q e;omega
   exact((((((((k8.setOther (p:=⟨w.heap.size,1,V⟩) (aa _ zz) _).setOther (p:=⟨w.heap.size,4,V⟩) (aa _ zz) _).setOther (p:=⟨w.heap.size,5,V⟩) (aa _ zz) _).setOther (p:=⟨w.heap.size+1,0,V⟩) (aa _ pz) _).setOther (p:=⟨w.heap.size+1,1,V⟩) (aa _ pz) _).setOther (p:=⟨w.heap.size+1,2,V⟩) (aa _ pz) _).setOther (p:=⟨w.heap.size+1,3,V⟩) (aa _ pz) _).setOther (p:=⟨w.heap.size+1,4,V⟩) (aa _ pz) _).setOther (p:=⟨w.heap.size+1,5,V⟩) (aa _ pz) _
def YH i a m c d b e f w:(Instr.field 76 (P #[.string i,Z a m c,Y O d,Y O b,Y O e,Y O f]) 1).run Tryz.prog w = .ok (Z a m c) w:=kM
structure EA (p:Pl):Prop where
 sh:∀q∈p.shape,(0<=q.1/\q.1<=2000)/\(0<=q.2/\q.2<=2000)
 ne:p.shape≠[]
 le:p.shape.length<=12
 w0:0<=p.way
 w1:p.way<=7
 ax:Bd 100000 p.ax
 az:Bd 100000 p.az
 gx:Bd 100 p.gx
 gz:Bd 100 p.gz
def CI{p}(h:Fa p=true):EA p:=by
 unfold Fa pd Kd Uc Ra at h;rw[<-MC]at h;simp only[Bool.and_eq_true,Bool.not_eq_true',Bool.or_eq_false_iff,decide_eq_true_eq,decide_eq_false_iff_not]at h;obtain⟨⟨⟨⟨⟨m,b⟩,n⟩,r⟩,⟨⟨s,h6⟩,t⟩⟩,⟨j,k⟩,⟨c,d⟩,⟨Wi,f⟩,i⟩:=h;unfold Kh at b;simp only[Bool.and_eq_true,List.all_eq_true]at b;have hc:=b.2.1;unfold Tf Ra at hc;simp only[Bool.and_eq_true,decide_eq_true_eq]at hc;refine⟨fun q l=>?_,fun e=>?_,by omega,j,k,by unfold Bd;omega,by unfold Bd;omega,by unfold Bd;omega,by unfold Bd;omega⟩
 ·have:=b.1 q l;unfold Ra at this;simp only[Bool.and_eq_true,decide_eq_true_eq]at this;exact⟨by omega,by omega⟩
 ·rw[e]at hc;simp at hc
def EA.bd{p}(h:EA p):∀q∈p.shape,Bd 1000000 q.1/\Bd 1000000 q.2:=fun q b=>by
 have:=h.sh q b;unfold Bd;omega
def SL{way}{l:LP}(r:∀q∈l,Bd 1000000 q.1/\Bd 1000000 q.2)(k:l≠[]):∀q∈Eg way l,Bd 2000000 q.1/\Bd 2000000 q.2:=by
 intro q f;have s:0<l.length:=List.length_pos_iff.2 k;unfold Eg at f;obtain⟨b,m⟩:=gX (((List.range l.length).map fun i=>If way (Qa l (if 4<=way then l.length-1-i else i))));rw[m]at f;have j:b.length=l.length:=by rw[<-m];simp
 have c:∀q∈b,Bd 1000000 q.1/\Bd 1000000 q.2:=by
  rw[<-m];intro q f;obtain⟨i,d,rfl⟩:=List.mem_map.1 f;have d:=List.mem_range.1 d;refine oB (r _ (Si ?_)) _;split<;>omega
 have v:Bd 1000000 (Ta b).1/\Bd 1000000 (Ta b).2:=by
  rw[<-Px (by intro e;rw[e]at j;simp at j;omega)];have:∀i,i<=b.length->Bd 1000000 (Vi b i).1/\Bd 1000000 (Vi b i).2:=by
   intro i;induction i with
   | zero=>intro _;exact c _ (Si oM)
   | succ i t =>
    intro d;have u:=t oM;have n:=c _ (Si (l:=b) (i:=i) oM);have e:Vi b (i+1)=(min (Vi b i).1 (Qa b i).1,min (Vi b i).2 (Qa b i).2):=rfl;rw[e];unfold Bd at *;dsimp only;omega
  exact this _ (nE _)
 unfold nh at f;obtain⟨i,d,rfl⟩:=List.mem_map.1 f;have d:=List.mem_range.1 d;have n:=c _ (Si (l:=b) (i:=(Tc b b.length+i)%b.length) (Nat.mod_lt _ oM));unfold Bd at *;dsimp only;omega
def NA(c:X)(b:LP)(f:Int×Int->Int×Int)(t4 t5:J)(W:X):Prop:=
 ∃i:Nat,t5=Y O i/\i<=b.length/\Ea 74 2 W c.heap.size t4 (((b.take i).map f).map pc)/\Ba c W
def Ly w v p(h:Ab w v p.shape)(hok:Fa p=true):Calls Tryz.prog 80 #[P (Dd p v)] w (Ni w (Ca p)):=by
 rw[<-vK];have r:=CI hok;have hB:=r.bd;have aa:=SL (way:=p.way) hB r.ne;have hT:=fun W (hW:Ba w W)=>tP W p.name v p.shape p.depth p.density p.gx p.gz p.way (h.f hW) hB r.ne (by have:=r.le;omega) r.w0 r.w1 (by have:=r.gx;unfold Bd at *;omega) (by have:=r.gz;unfold Bd at *;omega);have ac:=r.ax;have ae:=r.az;have aj:(Eg p.way p.shape).length<=12:=by unfold Eg nh;simpa using r.le
 unfold Xm;obtain⟨nm,l,d,de,gx,gz,wy,ax,az,sk⟩:=p;dsimp only at h hok r hB aa hT ac ae aj ⊢;obtain⟨gg,al⟩:=gX (If wy (gx,gz));obtain⟨j,f⟩:=gX (Eg wy l);obtain⟨F,hF⟩:∃F:Int×Int->Int×Int,(fun q=>(q.1+ax,q.2+az))=F:=⟨_,rfl⟩;rw[al,f]at hT;rw[f]at aa aj ⊢;rw[hF];obtain⟨a,c,rfl⟩:=h.form;obtain⟨n0,am⟩:=gX l.length;have HT:=za hT;have HF:=za hF;have au:=za aa;unfold Bd at ac ae;obtain⟨aA,aB⟩:=ac;obtain⟨aC,aD⟩:=ae;unfold Dd;dsimp only;rw[am]at HT ⊢;clear al f hF hT aa hB r hok h am;have aF:=YH;go_in;go_wp2_with(go_at_call 110;refine cM (HT.o _ eA) ?_;rintro e w2 ⟨v2,rfl,ai,ap⟩;obtain⟨a2,n2,c2,rfl⟩:=ai.i;obtain⟨⟨af,av⟩,ay⟩:=Jd w ap);have X2:Ba w w2:=eA;have f:=ai.pr;have an:=f.len;obtain⟨n,hn⟩:=gX j.length;rw[hn]at an aj;subst an;have aq:=za f;have Hn:=za hn;have b0:w2.cell? ⟨w.heap.size,7,V⟩=I (Y O ax):=by rw[af _ _ sM];go_simp
 have b1:w2.cell? ⟨w.heap.size,8,V⟩=I (Y O az):=by rw[af _ _ sM];go_simp
 clear f hn ai ap af av;go_loopw [4,5] (NA w2 j F) (fun _ t5 _=>n2-(intOf t5).toNat)
 case atStart=>exact⟨0,rfl,by omega,Ea.nil _ _ _ _,eR _⟩
 case round =>
  obtain⟨i,rfl,hi,y,hx⟩:=hrel;rw[Hn.o]at hi;obtain⟨va,vn,vc,rfl⟩:=y.i;have s:=za y;have d0:=hx.d b0;have d1:=hx.d b1;clear y;by_cases ah:i<n2
  ·obtain⟨b,o,rfl,aE,c0,c1⟩:=(aq.o.f hx).pt (i:=i) (by rw[Hn.o];exact ah);have bk:=au.o _ (Si (l:=j) (i:=i) (by rw[Hn.o];exact ah));have R:(j.take (i+1)).map F=(j.take i).map F++[F (Qa j i)]:=by
    rw[ze j i (Qa j i) (by rw[Sh (by rw[Hn.o];exact ah)];exact gE _),List.map_append];rfl
   have ak:F (Qa j i)=((Qa j i).1+ax,(Qa j i).2+az):=by rw[<-HF.o]
   rw[ak]at R;obtain⟨⟨x,z⟩,hq⟩:∃q,Qa j i=q:=⟨_,rfl⟩;rw[hq]at c0 c1 bk R;unfold Bd at bk;dsimp only at c0 c1 bk R;obtain⟨⟨x0,x1⟩,⟨z0,z1⟩⟩:=bk;have ar:=za R;have g0:(0:Int)<=(i:Int):=oM;have g1:(i:Int)<(n2:Int):=oM;have aH:IntKind.i64.wrap (x+ax)=x+ax:=iW _ oM;have aI:IntKind.i64.wrap (z+az)=z+az:=iW _ oM;clear hq R ak;go_wp2;refine Ti (fun i=>decide (20<i)) (Da [(⟨b,o+i*2,V⟩,Y O x),(⟨b,o+i*2+1,V⟩,Y O z),(⟨w.heap.size,7,V⟩,Y O ax),(⟨w.heap.size,8,V⟩,Y O az)]) kM ?_ (fun u=>?_)
   ·exact cA
   refine sN 0 ?_
   iterate 20 refine Ui ?_
   refine oN ?_;refine Ed (i:=20) fun K hK=>?_;go_simp;refine kO hK (fun _=>cE u ((eR wr.drew).alloc _)) (fun u=>?_);clear hK K;replace u:=u rfl;refine Ed (i:=21) fun K hK=>?_;refine kp (T:=74) (t:=22) (z:=P #[Y O 0,Y O 0]) (k:=2) (bytes:=16) (v:=Z va vn vc) (base:=w2.heap.size) Ks rfl dM dM Tryz.underlying22 rfl _ _ rfl rfl (s.o.ext ((eR wr).alloc (Obj.cells #[Value.int O (x+ax),Value.int O (z+az)] 74)).drew) (ad:=⟨wr.heap.size,0,V⟩) (m:=1) (c:=1) rfl [pc (x+ax,z+az)] rfl (by simp[pc]) (by exact Is wr (x+ax) (z+az)) (Pp _ _) (by rw[lL,lL,List.length_take];omega) (by have:=hx.size;simp only[wZ,Yb];omega) ?_;intro v5 w5 L ag aw;have ao:=s.o.lt;have ab:Below w2.heap.size wr w5:=((((eR wr).alloc (Obj.cells #[Value.int O (x+ax),Value.int O (z+az)] 74)).drew).below hx.size).trans (Yg ag (by have:=hx.size;simp only[wZ,Yb];omega) (fun k hk=>(ao k hk).1));have X5:Ba w2 w5:=hx.D ab (nE _);have aG:=ab.size;refine kO hK (fun h=>nomatch h) (fun _=>?_);clear hK K;obtain⟨a5,n5,c5,rfl⟩:=L.i;refine Ed (i:=22) fun K hK=>?_;go_simp;refine kO hK (fun h=>nomatch h) (fun u=>?_);clear hK K;refine Ub kM ?_ _;go_wp2;go_roundw
   case rel=>exact⟨i+1,by go_num,by rw[Hn.o];omega,by rw[ar.o,List.map_append];exact L,X5⟩
   case measure=>simp[intOf];omega
  ·obtain rfl:i=n2:=oM;have e:(j.take i).map F=j.map F:=by rw[lT (by rw[Hn.o];omega)]
   go_wp2;go_ret;exact⟨_,rfl,by have:=s.o;rw[e]at this;exact this.mono X2.size,X2.trans hx⟩
def mt w v l(h:Ab w v l)(K:l≠[]):Calls Tryz.prog 93 #[v] w fun e w'=>e=.returned (.tuple #[Y O (Qa l 0).1,Y O (Qa l (l.length-1)).1])/\Ba w w':=by
 obtain⟨a,c,rfl⟩:=h.form;obtain⟨n,j⟩:=gX l.length;have k:0<n:=by rw[<-j];exact List.length_pos_iff.2 K
 have f:=h.le;unfold maxLen at f;obtain⟨b,o,rfl,ab,s,t⟩:=h.pt (i:=0) (by rw[j];exact k);obtain⟨b2,o2,W,ac,u,r⟩:=h.pt (i:=n-1) (by rw[j];omega);cases W;rw[j];obtain⟨⟨x,z⟩,L⟩:∃q,Qa l 0=q:=⟨_,rfl⟩;obtain⟨⟨R,z2⟩,d⟩:∃q,Qa l (n-1)=q:=⟨_,rfl⟩;obtain⟨m,y⟩:=gX (n-1);rw[y]at d u r;rw[y,L,d];rw[L]at s t;rw[d]at u r;dsimp only at s t u r ⊢;simp only[Nat.zero_mul,Nat.add_zero]at s;obtain rfl:n=m+1:=oM;have g1:(m:Int)+1-1=(m:Int):=oM;have g2:(m:Int)<(m:Int)+1:=oM;have kw:IntKind.i64.wrap (m:Int)=(m:Int):=iW _ oM;have k0:(0:Int)<=(m:Int):=Int.natCast_nonneg m;clear f k L d y j h t r;go_in;go_wp2;refine jd [(⟨b,o,V⟩,Y O x),(⟨b,o+m*2,V⟩,Y O R)] cA fun aa=>?_;refine sN 0 ?_
 iterate 13 refine Db ?_
 refine oN ?_;refine Pb ?_;go_wp2;exact bR (v:=.tuple #[Y O x,Y O R]) (by simp[results,Tryz.results93,go_sem]) rfl ⟨rfl,eA⟩
def UV(w:X)(l:LP)(by':Int)(b c:J)(W:X):Prop:=
 ∃i f:Nat,c=Y O i/\b=Y O f/\Je l by' i=f/\i<=l.length/\Ba w W
def VI{l by'}(b:by'=1\/by' = -1){i}(h:i<=l.length)(h0:0<l.length):Je l by' i<l.length:=by
 cases i with
 | zero=>unfold Je;omega
 | succ i=>have:=(jC l b i).1;omega
def TV(w:X)(cs:LP)(by':Int)(s:Nat)(L:LP)(b t9:J)(W:X):Prop:=
 ∃m i:Nat,m<L.length/\t9=Y O i/\Vh cs.length s by' (m+1)=i/\Ea 74 2 W w.heap.size b ((L.take (m+1)).map pc)/\Ba w W
def GN(w:X) x z:Ea 74 2 (w.alloc (Obj.cells #[Value.int O (x),Value.int O (z)] 74)) w.heap.size (Z (I ⟨w.heap.size,0,V⟩) 1 1) [pc (x,z)]:=
 ⟨by simp[pc],by simp[pc],.inr ⟨w.heap.size,1,_,by simp,nE _,aN w _,by simp,by unfold maxLen;omega,by simp,by simp[pc]⟩⟩
def nG w v l L by'(hb:by'=1\/by' = -1)(h:Ab w v l)(hc:Xr l by' L)(hB:∀q∈l,Bd 3000000 q.1/\Bd 3000000 q.2)(hl:l.length<=1000)(hL:L.length<=1000):Calls Tryz.prog 96 #[v,Y O by'] w (Ni w L):=by
 obtain⟨a,c,rfl⟩:=h.form;obtain⟨n,hn⟩:=gX l.length;have ak:0<n:=by rw[<-hn];exact hc.pos
 have ap:0<L.length:=List.length_pos_iff.2 hc.ne;rw[hn]at hl ⊢;have u:=za hn;have H:=za h;have HB:=za hB;have Hc:=za hc;have Hb:=za hb;have b0:-1<=by':=oM;have b1:by'<=1:=oM;clear hn h hB hc hb;go_in;go_wp2;go_loopw [6,7] (UV w l by') (fun _ t7 _=>n-(intOf t7).toNat)
 case atStart=>exact⟨0,0,rfl,rfl,rfl,by omega,eR _⟩
 case round =>
  obtain⟨i,f,rfl,rfl,hf,hi,hx⟩:=hrel;rw[u.o]at hi;have af:Je l by' i<n:=by rw[<-u.o];exact VI Hb.o (by rw[u.o];exact hi) (by rw[u.o];exact ak)
  have K:Je l by' (i+1)=if Ch by' (Qa l i) (Qa l f)then i else f:=by subst hf;rfl
  rw[hf]at af;obtain⟨b,o,rfl,aK,d0,d1⟩:=(H.o.f hx).pt (i:=f) (by rw[u.o];exact af);by_cases ax:i<n
  ·obtain⟨b2,o2,e2,aF,c0,c1⟩:=(H.o.f hx).pt (i:=i) (by rw[u.o];exact ax);cases e2;have bi:=HB.o _ (Si (l:=l) (i:=i) (by rw[u.o];exact ax));have bf:=HB.o _ (Si (l:=l) (i:=f) (by rw[u.o];exact af));obtain⟨⟨x,z⟩,hq⟩:∃q,Qa l i=q:=⟨_,rfl⟩;obtain⟨⟨r,fz⟩,hp⟩:∃q,Qa l f=q:=⟨_,rfl⟩;rw[hq]at c0 c1 bi;rw[hp]at d0 d1 bf;have K:Je l by' (i+1)=if Ch by' (x,z) (r,fz)then i else f:=by rw[<-hq,<-hp];exact K
   have ah:Je l by' (i+1)=if x<r\/(x=r/\by'*(z-fz)<0)then i else f:=by rw[K];unfold Ch;rfl
   unfold Bd at bi bf;dsimp only at c0 c1 d0 d1 bi bf;have g0:(0:Int)<=(i:Int):=oM;have g1:(i:Int)<(n:Int):=oM;have g2:(0:Int)<=(f:Int):=oM;have g3:(f:Int)<(n:Int):=oM;obtain⟨M,hM⟩:=gX (by'*(z-fz));have aJ:-6000000<=M/\M<=6000000:=by rw[<-hM];rcases Hb.o with h|h<;>subst h<;>omega
   simp only[hM]at ah;have aO:IntKind.i64.wrap (z-fz)=z-fz:=iW _ oM;have aP:IntKind.i64.wrap M=M:=iW _ oM;have ai:=za ah;clear hf hq hp K ah;by_cases h1:x<r
   ·have e:x<r\/(x=r/\M<0):=.inl h1;have E:=za e;(have k1:decide (x<r)=true:=by simpa using h1);clear e;go_wp2;refine jd [(⟨b,o+i*2,V⟩,Y O x),(⟨b,o+i*2+1,V⟩,Y O z),(⟨b,o+f*2,V⟩,Y O r),(⟨b,o+f*2+1,V⟩,Y O fz)] cA fun ac=>?_;refine sN 0 ?_
    iterate 12 refine Db ?_
    (iterate 27 refine Ze ?_);refine Db ?_;refine oN ?_;refine Pb ?_;go_wp2;go_roundw
    case rel=>exact⟨i+1,_,by go_num,rfl,by rw[ai.o,if_pos E.o],by rw[u.o];omega,eA⟩
    case measure=>simp[intOf];omega
   ·(have k1:decide (x<r)=false:=by simpa using h1);by_cases h2:x=r
    ·(have h3:(x==r)=true:=by simpa using h2);by_cases h4:M<0
     ·(have k2:decide (M<0)=true:=by simpa using h4);have e:x<r\/(x=r/\M<0):=.inr ⟨h2,h4⟩;have E:=za e;clear h2 e;go_wp2;refine jd [(⟨b,o+i*2,V⟩,Y O x),(⟨b,o+i*2+1,V⟩,Y O z),(⟨b,o+f*2,V⟩,Y O r),(⟨b,o+f*2+1,V⟩,Y O fz)] cA fun ac=>?_;refine sN 0 ?_
      (iterate 40 refine Db ?_);refine oN ?_;refine Pb ?_;go_wp2;go_roundw
      case rel=>exact⟨i+1,_,by go_num,rfl,by rw[ai.o,if_pos E.o],by rw[u.o];omega,eA⟩
      case measure=>simp[intOf];omega
     ·(have k2:decide (M<0)=false:=by simpa using h4);have e:¬(x<r\/(x=r/\M<0)):=oM;have E:=za e;clear h2 e;go_wp2;refine jd [(⟨b,o+i*2,V⟩,Y O x),(⟨b,o+i*2+1,V⟩,Y O z),(⟨b,o+f*2,V⟩,Y O r),(⟨b,o+f*2+1,V⟩,Y O fz)] cA fun ac=>?_;refine sN 0 ?_
      (iterate 40 refine Db ?_);refine oN ?_;refine Pb ?_;go_wp2;go_roundw
      case rel=>exact⟨i+1,_,by go_num,rfl,by rw[ai.o,if_neg E.o],by rw[u.o];omega,eA⟩
      case measure=>simp[intOf];omega
    ·(have h3:(x==r)=false:=by simpa using h2);have e:¬(x<r\/(x=r/\M<0)):=oM;have E:=za e;clear h2 e;go_wp2;refine jd [(⟨b,o+i*2,V⟩,Y O x),(⟨b,o+i*2+1,V⟩,Y O z),(⟨b,o+f*2,V⟩,Y O r),(⟨b,o+f*2+1,V⟩,Y O fz)] cA fun ac=>?_;refine sN 0 ?_
     iterate 24 refine Db ?_
     iterate 14 refine Ze ?_
     (iterate 2 refine Db ?_);refine oN ?_;refine Pb ?_;go_wp2;go_roundw
     case rel=>exact⟨i+1,_,by go_num,rfl,by rw[ai.o,if_neg E.o],by rw[u.o];omega,eA⟩
     case measure=>simp[intOf];omega
  ·obtain rfl:i=n:=oM;obtain⟨⟨sx,sz⟩,hp⟩:∃q,Qa l f=q:=⟨_,rfl⟩;rw[hp]at d0 d1;dsimp only at d0 d1;have hs:Je l by' l.length=f:=by rw[u.o];exact hf
   have ae:=Hc.o.at' 0 ap;rw[hs,u.o,ix af,hp]at ae;have g2:(0:Int)<=(f:Int):=oM;have g3:(f:Int)<(i:Int):=oM;have g4:¬(i:Int)<(i:Int):=oM;have R:=ux (n:=i) (s:=f) (k:=0) (by':=by') ak;rw[ix af]at R;have al:Int.tmod ((f:Int)+by'+(i:Int)) (i:Int)=((Vh i f by' 1:Nat):Int):=by
    rw[Int.tmod_eq_emod_of_nonneg oM];exact R
   have aM:¬(i:Int)=0:=oM;have aI:¬i=0:=oM;obtain⟨j1,ar⟩:=gX (Vh i f by' 1);rw[ar]at al;have aD:=za ar;have aC:=za ae;have Hs:=za hs;have aB:=hx.size;clear hp hf ae R ar hs;go_wp2;go_loopw [8,9] (TV w l by' f L) (fun t8 _ _=>L.length-(match t8 with | Z _ n _=>n|_=>0))
   case atStart =>
    refine⟨0,j1,ap,rfl,by rw[u.o];exact aD.o,?_,eA⟩;have e:(L.take (0+1)).map pc=[pc (sx,sz)]:=by
     rw[ze L 0 (Qa L 0) (by rw[Sh ap];exact gE _),aC.o];rfl
    rw[e];exact(GN wr sx sz).mono aB
   case round =>
    clear d0 d1 hx g2 g3 al aB;obtain⟨m,j,hm,rfl,hj,d,hx⟩:=hrel;rw[u.o]at hj;(have aG:j<i:=by rw[<-hj];exact ir ak);obtain⟨b2,o2,e2,aF,c0,c1⟩:=(H.o.f hx).pt (i:=j) (by rw[u.o];exact aG);cases e2;obtain⟨va,vc,aA⟩:=d.form;rw[lL,List.length_take,Nat.min_eq_left oM]at aA;subst aA;obtain⟨g,rfl,hg,aL⟩:=d.blk (by rw[lL,List.length_take];omega);have W:((L.take (m+1)).map pc)[m]?=I (pc (Qa L m)):=by
     rw[lP,List.getElem?_take,if_pos oM,Sh hm,gE hm];rfl
    have l0:=d.cell (j:=0) W rfl;have ab:m+1<L.length->(Qa L m).1<(Qa L (m+1)).1/\Qa L (m+1)=Qa l j:=fun h9=>⟨Hc.o.up m h9,by rw[Hc.o.at' _ h9,Hs.o,u.o,hj]⟩;have aa:¬m+1<L.length->(Qa l j).1<=(Qa L m).1:=fun h9=>by
     have:=Hc.o.stop;rw[Hs.o,u.o,show L.length=m+1 by omega,hj]at this;exact this
    obtain⟨⟨qx,qz⟩,hq⟩:∃q,Qa l j=q:=⟨_,rfl⟩;obtain⟨⟨lx,lz⟩,au⟩:∃q,Qa L m=q:=⟨_,rfl⟩;rw[hq]at c0 c1 ab aa;rw[au]at l0 ab aa;dsimp only at c0 c1 l0 ab aa;simp only[Nat.add_zero]at l0;have am:=za d;have R:=ux (n:=i) (s:=f) (k:=m+1) (by':=by') ak;rw[hj]at R;have al:Int.tmod ((j:Int)+by'+(i:Int)) (i:Int)=((Vh i f by' (m+1+1):Nat):Int):=by
     rw[Int.tmod_eq_emod_of_nonneg oM];exact R
    obtain⟨j2,aj⟩:=gX (Vh i f by' (m+1+1));rw[aj]at al;have aE:=za aj;have k0:(0:Int)<=(j:Int):=oM;have k1:(j:Int)<(i:Int):=oM;have k2:(0:Int)<=(m:Int):=oM;have k3:(m:Int)<(m:Int)+1:=oM;have k4:(m:Int)+1-1=(m:Int):=oM;by_cases y:m+1<L.length
    ·obtain⟨h1,h2⟩:=ab y;rw[h2]at h1;dsimp only at h1;(have e1:decide (lx<qx)=true:=by simpa using h1);have H2:=za h2;have ao:=za hx.size;have kw:IntKind.i64.wrap (m:Int)=(m:Int):=iW _ oM;clear ab aa hq au d W hj R aj h2;go_wp2;refine jd [(⟨b,o+j*2,V⟩,Y O qx),(⟨g,m*2,V⟩,Y O lx)] cA fun ac=>?_;refine sN 0 ?_
     (iterate 13 refine Db ?_);refine oN ?_;refine Pb ?_;clear kw;go_wp2_with(at_builtin;refine Mi (T:=74) (t:=122) (z:=P #[Y O 0,Y O 0]) (k:=2) (bytes:=16) (base:=w.heap.size) (v:=Z (I ⟨g,0,V⟩) (m+1) vc) (m:=1) (c:=1) (ad:=⟨wr.heap.size,0,V⟩) Ks rfl dM dM Tryz.underlying122 rfl _ _ rfl rfl (am.o.ext ((eR wr).alloc (Obj.cells #[Value.int O (qx),Value.int O (qz)] 74)).drew) rfl [pc (qx,qz)] rfl (by simp[pc]) (by exact Is wr qx qz) (Pp qx qz) (by rw[lL,List.length_take];omega) (by have:=ao.o;simp only[wZ,Yb];omega) ?_;intro v' w5 ag aq aH);obtain⟨a5,c5,az⟩:=ag.form;rw[lA,lL,List.length_take,Nat.min_eq_left oM,List.length_singleton]at az;subst az;go_roundw
     case rel =>
      have ay:=am.o.lt;have aw:Below w.heap.size wr w5:=((((eR wr).alloc (Obj.cells #[Value.int O (qx),Value.int O (qz)] 74)).drew).below ao.o).trans (Yg aq (by have:=ao.o;simp only[wZ,Yb];omega) (fun k hk=>(ay k hk).1));refine⟨m+1,j2,y,rfl,by rw[u.o];exact aE.o,?_,hx.D aw (nE _)⟩;rw[ze L (m+1) (Qa L (m+1)) (by rw[Sh y];exact gE _),List.map_append,H2.o];exact ag
     case measure=>simp;omega
    ·have h1:=aa y;(have e1:decide (lx<qx)=false:=by simp;omega);have eL:L.length=m+1:=oM;have an:Ea 74 2 wr w.heap.size (Z (I ⟨g,0,V⟩) (m+1) vc) (L.map pc):=by
      have:=d;rw[lT oM]at this;exact this
     have av:=za an;have kw:IntKind.i64.wrap (m:Int)=(m:Int):=iW _ oM;clear ab aa hq au d W hj R aj an eL h1;go_wp2;refine jd [(⟨b,o+j*2,V⟩,Y O qx),(⟨g,m*2,V⟩,Y O lx)] cA fun ac=>?_;refine sN 0 ?_
     (iterate 13 refine Db ?_);refine oN ?_;refine Pb ?_;go_wp2;go_ret;exact⟨_,rfl,av.o.ext (eR wr).drew,hx.drew⟩
end
section
open Go.RowKit Go.Shelf
attribute [local go_sem] Oper.semAt_some
def MB w r s ps(a:Nat) p b f j(hg:∃a n c,r=Z a n c)(x:od w s ps)(u:ps[a]?=I p)(d:b<0\/∃(y:Nat)(q:Pl),b=(y:Int)/\ps[y]?=I q/\Me p q=true/\(a:Int)≠b)(k:ke (Ga p))(t:ke j)(m:gi j)(i:∀W,Ba w W->Calls Tryz.prog 182 #[P #[r,s],Y O b] W fun e z=>∃v,e=.returned v/\Ia z v j/\Ba W z)(hp:f=0):Calls Tryz.prog 138 #[P #[r,s],Y O a,Y O b,Y O f] w (pg w (Pg p j b f)):=by
 by_cases l:(Ld (Ga p) j).lo<(Ld (Ga p) j).hi
 ·cases hro:Wc (Ld (Ga p) j) f with
  | none=>exact rO w r s ps a p b f j hg x u d k t m i hp l hro
  | some K=>exact oO w r s ps a p b f j hg x u d k t m i hp l K hro
 ·exact qO w r s ps a p b f j hg x u d k t m i hp l
end
section
open Go.RowKit Go.Shelf Go.Sort Go.Lib
def Lk.keep{w w' c b}(h:Lk w c b)(k:Ja 2 w w'):Lk w' c b:=by obtain⟨f,t,d,e,i⟩:=h;exact⟨f,t,d,e.keep k,i.keep k⟩
def Td(w:X)(base:Nat)(v:J)(d:List Be):Prop:=∃cs,Ea 185 17 w base v cs/\cs.length=d.length/\∀(i:Nat) c b,cs[i]?=I c->d[i]?=I b->Lk w c b
def Td.ext{w w' base v d}(h:Td w base v d)(k:Ba w w'):Td w' base v d:=by obtain⟨e,f,j,l⟩:=h;exact⟨e,f.ext k,j,fun i c b hc m=>(l i c b hc m).ext k⟩
def Td.nil w base:Td w base (Z V 0 0) []:=⟨[],Ea.nil _ _ _ _,rfl,fun i c b hc=>by simp at hc⟩
def Td.i{w base v b}(h:Td w base v b):∃a n c,v=Z a n c:=by obtain⟨e,d,_⟩:=h;exact d.i
def Td.app{wr j base m f cs d b}(h:Ea 185 17 j base m (cs++[d]))(k:cs.length=f.length)(l:∀(i:Nat) c b,cs[i]?=I c->f[i]?=I b->Lk wr c b)(s:Ja 2 wr j)(q:Lk j d b):Td j base m (f++[b]):=by
 refine⟨cs++[d],h,by simp[k],fun i c n hc e=>?_⟩;by_cases r:i<cs.length
 ·rw[List.getElem?_append_left r]at hc;rw[List.getElem?_append_left oM]at e;exact(l i c n hc e).keep s
 ·rw[List.getElem?_append_right oM]at hc e;have t:=(lS.1 hc).1;simp at t;have:i-cs.length=0:=oM;rw[this]at hc;rw[show i-f.length=0 by omega]at e;simp at hc e;subst hc e;exact q
def WK:(Tryz.prog.info? 185).map (fun i=>(i.zero,i.size,i.bytes))=I (I (P Zk),17,264):=kM
def Gb(g:LP)(ps:List Pl)(a:Nat)(p:Pl)(c b:Int):Option Be:=
 if (a:Int)=b then V else if b<0 then Pg p g b c else match ps[b.toNat]? with|none=>V|some q=>if Me p q=true then Pg p (Mb q) b c else V
def Xe(g:LP)(ps:List Pl)(a:Nat)(p:Pl)(b:Int)(n:Nat):List Be:=(List.range n).filterMap fun k:Nat=>Gb g ps a p b ((k:Int)-1)
def UF g ps a p c n:Xe g ps a p c (n+1)=Xe g ps a p c n++(match Gb g ps a p c ((n:Int)-1)with|none=>[]|some b=>[b]):=by
 unfold Xe;rw[List.range_succ,List.filterMap_append]
 congr 1
 cases h:Gb g ps a p c ((n:Int)-1)<;>simp[h]
def ME g ps a p b n:(Xe g ps a p b n).length<=n:=by unfold Xe;have:=List.length_filterMap_le (fun k:Nat=>Gb g ps a p b ((k:Int)-1)) (List.range n);simpa using this
def FK w d f g ps(a:Nat) p(b c:Int)(hg:Ia w d g)(j:od w f ps)(l:ps[a]?=I p)(m:Bb g=true)(hok:∀q∈ps,Fa q=true)(x:-1<=b)(y:b<ps.length)(hp:c=0):Calls Tryz.prog 138 #[P #[d,f],Y O a,Y O b,Y O c] w (pg w (Gb g ps a p c b)):=by
 have n:=hok p (lM l);unfold Gb;by_cases k:(a:Int)=b
 ·rw[if_pos k,<-k];exact pO w d f ps a p c (Ma hg) j l
 rw[if_neg k];by_cases t:b<0
 ·rw[if_pos t];exact MB w d f ps a p b c g (Ma hg) j l (.inl t) (Dl n).1 (Ys m) (KQ m) (fun W u=>(vR W d f b t (Ma hg) (Ma j)).mono (by rintro e z ⟨rfl,v⟩;exact⟨_,rfl,hg.f (u.trans v),v⟩)) hp
 rw[if_neg t];obtain⟨q,r⟩:∃q,ps[b.toNat]?=I q:=⟨ps[b.toNat]' oM,gE _⟩;have s:=lM r;simp only[r];have i:b=((b.toNat:Nat):Int):=oM;cases hmt:Me p q with
 |false=>
  rw[if_neg sM];exact oQ w d f ps a p b c (Ma hg) j l b.toNat i q r hmt k
 |true=>
 rw[if_pos rfl];refine MB w d f ps a p b c (Mb q) (Ma hg) j l (.inr ⟨b.toNat,q,i,r,hmt,k⟩) (Dl n).1 (Dl (hok q s)).2 (ZI (hok q s)) (fun W u=>?_) hp;have:=KO W d f ps b.toNat q (Ma hg) (j.f u) r;rw[<-i]at this;exact this
def Td.lt{w base v b}(h:Td w base v b):∀j,v.ownBlock=I j->base<=j/\j<w.heap.size:=by obtain⟨d,c,_⟩:=h;exact c.lt
def Td.mono{w base b' v b}(h:Td w base v b)(k:b'<=base):Td w b' v b:=by obtain⟨c,d,e,f⟩:=h;exact⟨c,d.mono k,e,f⟩
def ol(w:X)(b:List Be)(e:Ending)(w':X):Prop:=∃v,e=.returned (.tuple #[v,Y O 0])/\Td w' w.heap.size v b/\Ba w w'
def vH(w:X)(b:Nat)(j k:J)(ps:List Pl)(c:Nat->List Be)(f:Nat)(d e:J)(W:X):Prop:=
 ∃i:Nat,i<=ps.length+1/\e=Y O ((i:Int)-1)/\f=ps.length+1-i/\Ba w W/\b+1<=W.heap.size/\W.heap[b]?=I (G #[j,k] 149 (0,0))/\Td W (b+1) d (c i)
def Lk.form{w c b}(h:Lk w c b):∃a m c1 s a2 m2 c2 b1 n k t b2 n2 k2 a' m' c' s' a2' m2' c2' b' n' k' t' b2' n2' k2',c=[Y O b.num,Z a m c1,C s,Z a2 m2 c2,Z b1 n k,C t,Z b2 n2 k2,Z a' m' c',C s',Z a2' m2' c2',Z b' n' k',C t',Z b2' n2' k2',Y O b.d1.1,Y O b.d1.2,Y O b.d2.1,Y O b.d2.2]:=by
 obtain⟨f,t,rfl,⟨a,m,c,s,a2,m2,c2,b1,n,k,d,b2,n2,k2,j,_,_⟩,a',m',c',s',a2',m2',c2',b',n',k',t',b2',n2',k2',l,_,_⟩:=h;have e:f=[Z a m c,C s,Z a2 m2 c2,Z b1 n k,C d,Z b2 n2 k2]:=by simpa using j
 have i:t=[Z a' m' c',C s',Z a2' m2' c2',Z b' n' k',C t',Z b2' n2' k2']:=by simpa using l
 subst e i;exact⟨a,m,c,s,a2,m2,c2,b1,n,k,d,b2,n2,k2,a',m',c',s',a2',m2',c2',b',n',k',t',b2',n2',k2',rfl⟩
def lu{W w' o e}(h:pg W o e w'):∃nb a m c1 s a2 m2 c2 b1 n k t b2 n2 k2 a' m' c' s' a2' m2' c2' b' n' k' t' b2' n2' k2' e1 e2 e3 e4 bb,e=.returned (.tuple #[P #[Y O nb,Z a m c1,C s,Z a2 m2 c2,Z b1 n k,C t,Z b2 n2 k2,Z a' m' c',C s',Z a2' m2' c2',Z b' n' k',C t',Z b2' n2' k2',Y O e1,Y O e2,Y O e3,Y O e4],C bb])/\(bb=true->∃be,o=I be/\Lk w' [Y O nb,Z a m c1,C s,Z a2 m2 c2,Z b1 n k,C t,Z b2 n2 k2,Z a' m' c',C s',Z a2' m2' c2',Z b' n' k',C t',Z b2' n2' k2',Y O e1,Y O e2,Y O e3,Y O e4] be)/\(bb=false->o=V)/\Ba W w':=by
 obtain⟨i,⟨d,f⟩|⟨b,c,d,f,j⟩⟩:=h
 ·exact⟨0,V,0,0,false,V,0,0,V,0,0,false,V,0,0,V,0,0,false,V,0,0,V,0,0,false,V,0,0,0,0,0,0,false,f,(fun h=>by cases h),fun _=>d,i⟩
 ·obtain⟨a,m,c1,s,a2,m2,c2,b1,n,k,t,b2,n2,k2,a',m',c',s',a2',m2',c2',b',n',k',t',b2',n2',k2',rfl⟩:=j.form;exact⟨b.num,a,m,c1,s,a2,m2,c2,b1,n,k,t,b2,n2,k2,a',m',c',s',a2',m2',c2',b',n',k',t',b2',n2',k2',b.d1.1,b.d1.2,b.d2.1,b.d2.2,true,f,fun _=>⟨b,d,j⟩,(fun h=>by cases h),i⟩
def nO{K wr W L l i vg vs v9 ps e va cs d R A}(ac:i<ps.length+1)(aa:K.heap.size=l)(hx:Ba K wr)(ab:l+1<=wr.heap.size)(hK:wr.heap[l]?=I (G #[vg,vs] 149 (0,0)))(z:Ba wr W)(hz:l+1<=W.heap.size)(x:Ea 185 17 wr (l+1) va cs)(v:cs.length=(e i).length)(w:∀(j:Nat) c b,cs[j]?=I c->(e i)[j]?=I b->Lk wr c b)(q:Ea 185 17 L (l+1) v9 (cs++[d]))(f:(W.alloc (G A 185)).grownBy L va.ownBlock)(y:Lk W d R)(hs:e (i+1)=e i++[R]):vH K l vg vs ps e (ps.length+1-(i+1)) v9 (Y O (i:Int)) L:=by
 have m:=z.alloc (G A 185);have r:=x.ext m;have s:l+1<=(W.alloc (G A 185)).heap.size:=by simp only[wZ];omega
 have n:=Yg (base:=l+1) f s (fun k hk=>(r.lt k hk).1);have t:=r.keepT (T':=2) dM f;have u:=hx.trans m;refine⟨i+1,by omega,by go_num,rfl,u.D n oM,nT s n.size,(n.block _ oM).trans (m.e hK),?_⟩;rw[hs];exact Td.app q v w (m.keep.trans t) ((y.ext ((eR _).alloc _)).keep t)
def nQ w3 w4 r vg vs ps(a:Nat) ae(f:Nat->List Be)(an:Int->Option Be) Q x0 x3 x4 x5 x6 x7 x9 aW aX ax ay az aA aB aC aD aE aF aG aH aI aY aZ a0 a1 a3 a4 a5 a6 a7 a8 ba bc bf bg bh bi bj bk bl bm bn(aR:∃a n c,vg=Z a n c)(R:od w3 vs ps)(bN:ps.length<=120)(av:∀n,f (n+1)=f n++(match an ((n:Int)-1)with|none=>[]|some b=>[b]))(aq:∀n,(f n).length<=n)(ap:f 0=[])(hB:∀W,Ba w3 W->∀b:Int,-1<=b->b<ps.length->Calls Tryz.prog 138 #[P #[vg,vs],Y O a,Y O b,Y O ae] W (pg W (an b)))(am:Ba w3 w4)(aJ:r+1<=w4.heap.size)(ao:w3.heap.size=r)(K8:w4.heap[r]?=I (G #[vg,vs] 149 (0,0)))(hQ:∀(W:X)(af aV bo bp bq br bs bt bu bv bw bx bz bA bB bC bD bE bF bG bH bI bJ bK bL:J),Ba w3 W->Td W (r+1) af (f (ps.length+1))->(∃a n c,af=Z a n c)->Q (.exit 0) { tmps:=#[x0,Y O a,Y O ae,x3,x4,x5,x6,x7,S (I ⟨r,0,V⟩),x9,af,aV,bo,bp,ax,ay,az,aA,aB,aC,aD,aE,aF,aG,aH,aI,bq,br,bs,bt,bu,bv,bw,bx,bz,bA,bB,bC,bD,bE,bF,bG,bH,bI,bJ,bK,bL],defers:=[] } W) :
  (Code.loop (Tb Tryz.f99 0)).wp Tryz.prog Q { tmps:=#[x0,Y O a,Y O ae,x3,x4,x5,x6,x7,S (I ⟨r,0,V⟩),x9,Z V 0 0,Y O (-1),aW,aX,ax,ay,az,aA,aB,aC,aD,aE,aF,aG,aH,aI,aY,aZ,a0,a1,a3,a4,a5,a6,a7,a8,ba,bc,bf,bg,bh,bi,bj,bk,bl,bm,bn],defers:=[] } w4:=by
 obtain⟨ga,gn,gc,rfl⟩:=aR;obtain⟨sa,sn,sc,rfl⟩:=Ma R;have ak:=za (show sn=ps.length from R.len);have HB:=za hB;have al:=za av;have ai:=za aq;have ah:=za ap;have aK:=za ao;have HQ:=za hQ;clear hB av aq ap ao hQ R;unfold Tb;simp only[Tryz.f99,Jb,List.append_nil,List.nil_append,List.singleton_append,List.getD_cons_zero,List.getD_cons_succ];go_loopg [10,11] (ps.length+1) (vH w3 r (Z ga gn gc) (Z sa sn sc) ps f)
 case atStart=>exact⟨0,by omega,by go_num,by omega,am,aJ,K8,by rw[ah.o];exact Td.nil _ _⟩
 case round =>
  clear K8 am aJ ah;obtain⟨i,hi,rfl,rfl,hx,aQ,hK,j⟩:=hrel;obtain⟨va,vn,vc,rfl⟩:=j.i;have m0:=Aa hK 0 (Z ga gn gc);have m1:=Aa hK 1 (Z sa sn sc);have HK:=za hK;have Hx:=za hx;have q:=za j;clear hK;by_cases aS:i<ps.length+1
  ·have q1:-1<=(i:Int)-1:=oM;have q2:(i:Int)-1<(ps.length:Int):=oM;have q3:(i:Int)-1<(sn:Int):=by have:=ak.o;omega
   have ag:=za (fun(W:X)(hW:Ba wr W)=>HB.o W (hx.trans hW) ((i:Int)-1) q1 q2);clear hx HB q1 q2;have aL:=za (fun(W:X)(hW:Ba wr W)=>(ag.o W hW).mono (fun e w' h=>lu h));obtain⟨cs,au,K,ar⟩:=j;have aj:=za au;have aO:=za ar;have aM:=za K;have aP:=za (show cs.length<=121 by rw[K];exact nT (ai.o i) oM);clear ag au K ar ai HQ hi;go_wp2_with(first|(go_at_call 138;refine cM (aL.o _ eA) ?_;rintro e w5 ⟨nb,a,m,c1,s,a2,m2,c2,b1,n,k,t,b2,n2,k2,a',m',c',s',u,ab,x,b',n',k',t',w,ac,aa,e1,e2,e3,e4,bb,rfl,aw,aT,d⟩;(have z5:=d.size))|(at_builtin;refine Mi (T:=185) (t:=172) (z:=P Zk) (k:=17) (bytes:=264) (base:=r+1) (v:=Z va vn vc) (cs:=cs) (m:=1) (c:=1) (ad:=⟨w5.heap.size+1,0,V⟩) WK rfl dM dM Tryz.underlying172 rfl _ _ rfl rfl (aj.o.ext ((d.alloc _).alloc _)) rfl [[Y O nb,Z a m c1,C s,Z a2 m2 c2,Z b1 n k,C t,Z b2 n2 k2,Z a' m' c',C s',Z u ab x,Z b' n' k',C t',Z w ac aa,Y O e1,Y O e2,Y O e3,Y O e4]] rfl sM (by have:=Mo (w5.alloc (G #[Y O nb,Z a m c1,C s,Z a2 m2 c2,Z b1 n k,C t,Z b2 n2 k2,Z a' m' c',C s',Z u ab x,Z b' n' k',C t',Z w ac aa,Y O e1,Y O e2,Y O e3,Y O e4] 185)) #[Y O nb,Z a m c1,C s,Z a2 m2 c2,Z b1 n k,C t,Z b2 n2 k2,Z a' m' c',C s',Z u ab x,Z b' n' k',C t',Z w ac aa,Y O e1,Y O e2,Y O e3,Y O e4] 185;simpa only[wZ] using this) (by simp[Value.oneCell']) (by have:=aP.o;omega) (by simp only[wZ];omega) ?_;intro v' w9 l L bM;obtain⟨a9,n9,c9,rfl⟩:=l.i))
   ·go_roundg (ps.length+1-(i+1))
    case measure=>omega
    case rel =>
     obtain⟨be,y,aU⟩:=aw (by assumption);exact nO aS aK.o Hx.o aQ HK.o (d.alloc _) (by simp only[wZ];omega) aj.o aM.o aO.o l L (aU.ext ((eR _).alloc _)) (by rw[al.o,y])
   ·go_roundg (ps.length+1-(i+1))
    case measure=>omega
    case rel =>
     have y:=aT (by assumption);exact⟨i+1,by omega,by go_num,rfl,(Hx.o.trans d).alloc _,by have:=d.size;simp only[wZ];omega,((eR _).alloc _).e (d.e HK.o),by rw[al.o,y,List.append_nil];exact(q.o.ext d).ext ((eR _).alloc _)⟩
  ·obtain rfl:i=ps.length+1:=oM;have q3:¬(((ps.length+1:Nat):Int)-1<(sn:Int)):=by have:=ak.o;omega
   go_wp2;exact HQ.o _ _ _ _ _ _ _ _ _ _ _ _ _ _ _ _ _ _ _ _ _ _ _ _ _ _ Hx.o q.o ⟨_,_,_,rfl⟩
def EK w vg vp g ps(a:Nat) p c(hg:Ia w vg g)(hp:ld w vp ps)(ae:Gw w)(h0:Eb g ps=0)(ha:ps[a]?=I p)(af:c=0)(ad:Bb g=true)(hok:∀q∈ps,Fa q=true)(ap:ps.length<=120):Calls Tryz.prog 99 #[P #[vg,vp],Y O a,Y O c] w (ol w (Xe g ps a p c (ps.length+1))):=by have HL:=za (fun(W:X)(m:Ba w W)=>(MF W vg vp g ps (hg.f m) (hp.f m) (ae.ext m)).mono (fun e w' h=>h.resolve_left (fun h9=>h9.1 h0)));have HB:=za (fun(W:X)(m:Ba w W)(vs:J)(hs:od W vs ps)(b:Int)(v:-1<=b)(x:b<ps.length)=>FK W vg vs g ps a p b c (hg.f m) hs ha ad hok v x af);obtain⟨ga,gn,gc,rfl⟩:=Ma hg;obtain⟨pa,pn,ax,rfl⟩:=Ma hp;have ag:=hp.len;have Hn:=za ag;have Hw:=za (fun(l:Nat)(h:ps.length=l)=>(show Ue l a c=false by unfold Ue;have:=(lS.1 ha).1;simp;omega));clear ag;have hi:=(lS.1 ha).1;obtain⟨u,d⟩:=gX (Xe g ps a p c);have s:=za (d▸UF g ps a p c);have aa:=za (d▸ME g ps a p c);have L:=za (show u 0=[] by rw[<-d];rfl);rw[d];obtain⟨ak,n⟩:=gX (Gb g ps a p c);rw[n]at HB s;obtain⟨R,hR⟩:=gX (ol w (u (ps.length+1)));rw[hR];have HR:=za hR;clear hg hp ae h0 ha ad hok hR d n af;go_in;go_wp2_with(first|(go_at_call 83;refine cM (HL.o _ eA) ?_;rintro e z ⟨-,vs,rfl,j,k⟩;obtain⟨sa,l,sc,rfl⟩:=Ma j;obtain⟨al,an⟩:=k.cells;(have z3:=k.size);(simp only[wZ]at z3);(have aq:Ue l a c=false:=Hw.o l j.len.symm);(have t:=za j);clear j;(have au:w.heap.size<z.heap.size:=oM))|(go_at_call 137;(with_reducible refine(zO _ (Z ga gn gc) sa l sc a c ⟨_,_,_,rfl⟩).mono ?_);rw[aq];rintro e w4 ⟨rfl,f⟩;obtain⟨am,ao⟩:=f.cells;(have z4:=f.size);(simp only[wZ]at z4)));have X3:Ba w z:=((eR w).alloc _).trans k;have av:=za (show l=ps.length from t.o.len);have K8:=f.e (aN z (G #[Z ga gn gc,Z sa l sc] 149));have ac:Ba z w4:=((eR z).alloc _).trans f;obtain⟨b8,i⟩:=gX z.heap.size;have K:=za X3;have ai:=za i;have aw:w.heap.size<=b8:=oM;have ar:b8+1<=w4.heap.size:=oM;rw[i]at K8;simp only[i];clear al an am ao k f X3 i z3 z4 au;refine nQ z w4 b8 (Z ga gn gc) (Z sa l sc) ps a c u ak _ _ _ _ _ _ _ _ _ _ _ _ _ _ _ _ _ _ _ _ _ _ _ _ _ _ _ _ _ _ _ _ _ _ _ _ _ _ _ _ _ _ _ ⟨_,_,_,rfl⟩ t.o ap s.o aa.o L.o (fun W m b v x=>HB.o W (K.o.trans m) _ (t.o.f m) b v x) ac ar ai.o K8 ?_;intro W ay az aA aB aC aD aE aF aG aH aI aJ aK aL aM aO aP aQ aR aS aT aU aV aW aX ah r y;obtain⟨va,vn,vc,rfl⟩:=y;have aj:=za ah;have ab:=za r;clear ah r K8 ac HL HB s aa L;go_wp2;rw[<-HR.o];exact⟨_,rfl,ab.o.mono oM,K.o.trans aj.o⟩
section
variable {g:LP} {ps:List Pl} (hg:ie g) (ng:g≠[]) (hok:∀p∈ps,Fa p=true) {a:Nat} {p:Pl} (hp:ps[a]?=I p)
include hg ng hok hp
end
end
section
open Go.RowKit Go.Shelf Go.Maps
def Ut:Keyed Tryz.prog 3:=int_keyed Tryz.underlying3
def yO w:(zeroValue 47).run Tryz.prog w = .ok (.slice none 0 0) w:=kM
def Gm(W:World)(base B n:Nat)(f:Nat->List Int):Prop:=
 ∃D:DataW Unit,W.ownsGroups Tryz.prog 3 base 3 .i64 B n D/\∀k:Nat,k<1000->(D.atKey (.int .i64 (k:Int)) .nil = .nil/\f k=[])\/D.atKey (.int .i64 (k:Int)) .nil = .slice (ChangeShapes.lits .i64 (f k)) []
def Gm.made(w:World):Gm (w.alloc (.map #[] 0)) (w.heap.size+1) w.heap.size 0 (fun _=>[]):=
 ⟨.map [],World.ownsGroups_made _ _ _ _ _,fun k _=>.inl ⟨rfl,rfl⟩⟩
def Gm.keptLow{W W' base B n f row}(h:Gm W base B n f)(hg:W.grownBy W' row)(d:some B≠row)(e:∀j,row=some j->j<base):Gm W' base B n f:=by obtain⟨D,b,c⟩:=h;exact⟨D,b.kept hg d (b.rowsAbove e),c⟩
def Ot{k:Nat}(h:k<1000):(Lit.int .i64 (k:Int)).wf=true:=WalkArith.wf_i64 oM
def gN{xs d}(h:(ChangeShapes.lits (H:=Unit) .i64 xs)=ChangeShapes.lits .i64 d):xs=d:=by unfold ChangeShapes.lits at h;exact(List.map_inj_right (fun a b c=>by simpa using c)).1 h
def Gm.at{W base B n f}(h:Gm W base B n f)(hn:n<maxLen){k:Nat}(K:k<1000):∃v,(Instr.lookup 171 (.map (some B)) (.int .i64 (k:Int)) false).run Tryz.prog W = .ok v W/\W.ownsInts base 3 .i64 v (f k)/\(f k).length<=n/\∀w1 v' x,W.grownBy w1 v.ownBlock->w1.ownsInts base 3 .i64 v' (f k++[x])->(v'.ownBlock=v.ownBlock\/∃g,v'.ownBlock=some g/\W.heap.size<=g) ->∃w2,(Instr.mapUpdate 171 (.map (some B)) (.int .i64 (k:Int)) v').run Tryz.prog w1 = .ok () w2/\Gm w2 base B (n+1) (fun j=>if j=k then f k++[x]else f j)/\w1.grownBy w2 (some B):=by
 obtain⟨D,y,z⟩:=h;obtain⟨v,zs,m,b,d,u,c⟩:=y.at Ut Tryz.underlying171 (yO _) hn (keyOf_int_mk Tryz.underlying3 (Ot K));have e:f k=zs:=by
  rcases z k K with ⟨r,L⟩|r
  ·rw[r]at b;rcases d.datum (H:=Unit)with ⟨i,w⟩|i
   ·rw[L,w]
   ·rw[i]at b;cases b
  ·rw[r]at b;rcases d.datum (H:=Unit)with ⟨i,w⟩|i
   ·rw[i]at b;cases b
   ·rw[i]at b;exact gN (by simpa using b)
 subst e;refine⟨v,m,d,u,fun w1 v' x hg ho hl=>?_⟩;obtain⟨w2,r1,r2,r3⟩:=c w1 v' _ hg ho (by simp;omega) hl;refine⟨w2,r1,⟨_,r2,fun j R=>?_⟩,r3⟩;have t:IsMap D:=by
  obtain⟨es,s,_,_,_,t,_⟩:=y;exact⟨_,t⟩
 by_cases l:j=k
 ·subst l
  right
  dsimp only;rw[if_pos rfl,atKey_put_same t (by first|trivial|exact True.intro|simp[q.IsKeyLit])];exact ho.datum_pos sM
 ·dsimp only;rw[if_neg l,atKey_put_other (by simp;omega)];exact z j R
def qq{W base v zs}(h:W.ownsInts base 3 .i64 v zs):Ea 3 1 W base v (zs.map ic):=by
 refine⟨ms,?_⟩;have e:(zs.map ic).flatten=zs.map (Value.int .i64):=by
  clear h;induction zs with
  | nil=>rfl
  | cons z zs b=>rw[List.map_cons,List.flatten_cons,b];rfl
 rw[e,lL];exact h.1
end
section
open Go.RowKit Go.Shelf Go.Sort Go.Lib Go.Maps
def Un(d q:Int×Int):Int×Int:=(q.1+d.1,q.2+d.2)
def xw(d:Int×Int)(l:LP):LP:=l.map (Un d)
def je.mv{cs q} d(h:je cs q):je (xw d cs) (Un d q):=by obtain⟨u,v,⟨b,e⟩,c⟩:=h;exact⟨Un d u,Un d v,⟨b.maps _,by unfold Un;dsimp only;omega⟩,by rcases c with rfl|rfl<;>simp⟩
def Dh.mv{cs q} d(h:Dh cs q):Dh (xw d cs) (Un d q):=by obtain⟨u,v,⟨b,e⟩,c⟩:=h;exact⟨Un d u,Un d v,⟨b.maps _,by unfold Un;dsimp only;omega⟩,by rcases c with rfl|rfl<;>simp⟩
def ie.mv{l} d(h:ie l):ie (xw d l):=by unfold ie xw at *;rw[List.pairwise_map];exact h.imp fun h=>by unfold Un;dsimp only;omega
end
section
open Go.RowKit Go.Shelf Go.Maps Go.Sort Go.Lib
attribute [local go_sem] Oper.semAt_some
def UD w b g n os(z:Int)(j:w.heap[b]?=I (G #[Z (I ⟨g,0,V⟩) n n] 47 (0,0)))(c:Ud w (Z (I ⟨g,0,V⟩) n n) os)(h0:0<=z)(u:z<n):Calls Tryz.prog 103 #[Y O z,S (I ⟨b,0,V⟩)] w fun e r=>e=.returned (C (os.getD z.toNat 0==0))/\Ba w r:=by
 have q:=c.len;obtain⟨i,rfl⟩:∃i:Nat,z=(i:Int):=⟨z.toNat,by omega⟩;obtain⟨y,d⟩:∃y,os[i]?=I y:=⟨os[i]' oM,gE _⟩;obtain⟨s,v,e,l,k⟩:=c.at' d;cases e;have t:=Aa j 0 (Z (I ⟨g,0,V⟩) n n);have f:os.getD ((i:Int)).toNat 0=y:=by rw[gD,Int.toNat_natCast,d];rfl
 rw[f];have m:i<n:=oM;clear c q d f j;simp only[Nat.zero_add]at k;go_in;go_wp2;go_ret;exact⟨rfl,eR _⟩
def Ea.put1{w base g n c i}{os:List Int}(h:Ea 3 1 w base (Z (I ⟨g,0,V⟩) n c) (os.map ic))(hi:i<os.length) z:Ea 3 1 (w.setCell ⟨g,i,V⟩ (Y O z)) base (Z (I ⟨g,0,V⟩) n c) ((os.set i z).map ic):=by have b:=Ea.putAll (j:=0) (us:=[Y O z]) h (i:=i) (d:=ic (os[i])) (by rw[lP,gE hi];rfl) rfl;rw[List.map_set];simpa[Xj,ic] using b
def Ea.frz{T k w base g n c cs}(h:Ea T k w base (Z (I ⟨g,0,V⟩) n c) cs):∃cur,w.heap[g]?=I (G cur T (0,0)):=by
 rcases h.2.2 with ⟨b,_⟩|⟨d,cap,cur,hv,_,hh,_⟩
 ·cases b
 ·cases hv;exact⟨cur,hh⟩
def pe(os:List Int)(L:List Int):Int:=L.foldl (fun o z=>max o (os.getD z.toNat 0)) 0
def LO os L z:pe os (L++[z])=max (pe os L) (os.getD z.toNat 0):=by unfold pe;rw[List.foldl_append];rfl
def oJ{os}(b:∀v∈os,0<=v/\v<=1000) L:0<=pe os L/\pe os L<=1000:=by
 unfold pe;have:∀(L:List Int)(o:Int),0<=o/\o<=1000->0<=L.foldl (fun o z=>max o (os.getD z.toNat 0)) o/\L.foldl (fun o z=>max o (os.getD z.toNat 0)) o<=1000:=by
  intro L;induction L with
  | nil=>intro o h;exact h
  | cons z L c =>
   intro o h;refine c _ ?_;dsimp only;have d:0<=os.getD z.toNat 0/\os.getD z.toNat 0<=1000:=by
    rw[gD];cases h9:os[z.toNat]? with
    | none=>simp
    | some v=>exact b v (lM h9)
   omega
 exact this L 0 dM
def qV(d:X)(b go n k:Nat)(os L:List Int)(e:Nat)(c:J)(W:X):Prop:=
 ∃i:Nat,i<=L.length/\c=Y O i/\e=L.length-i/\d.grownBy W (I go)/\Ea 3 1 W b (Z (I ⟨go,0,V⟩) n n) ((os.set k (pe os (L.take i))).map ic)
def TD w x b1 b2 B base l N go n f(os:List Int)(k:Nat)(aR:x.1.k=(k:Int))(hv:∃a n c,x.2=Z a n c)(hm:w.heap[b1]?=I (G #[.map (I B)] 171 (0,0)))(ho:w.heap[b2]?=I (G #[Z (I ⟨go,0,V⟩) n n] 47 (0,0)))(hG:Gm w base B N f)(hN:N<1000000)(ad:Ea 3 1 w l (Z (I ⟨go,0,V⟩) n n) (os.map ic))(a2:go<base)(aZ:B≠go)(hk:k<n)(hn:n<=120)(aH:∀v∈os,0<=v/\v<=1000)(aG:os.getD k 0=0)(hf:∀z∈f k,0<=z/\z<n/\os.getD z.toNat 0≠0)(Wi:b1≠go/\b2≠go):Calls Tryz.prog 102 #[P (Ah x),S (I ⟨b1,0,V⟩),S (I ⟨b2,0,V⟩)] w fun e w'=>e=.returned (C true)/\w.grownBy w' (I go)/\Ea 3 1 w' l (Z (I ⟨go,0,V⟩) n n) ((os.set k (pe os (f k)+1)).map ic):=by
 obtain⟨⟨⟨nm,sh,d,de,gx,gz,wy,ax,az,sk⟩,kk,⟨xl,xh⟩,zl,zh⟩,v⟩:=x;obtain⟨va,vn,vc,rfl⟩:=hv;dsimp only at *;subst aR;obtain⟨L,hL⟩:=gX (f k);rw[hL]at hf ⊢;have a3:∀(fn:Fn)(first cap:Array J)(w:X),(Instr.makeFunc fn first cap).run Tryz.prog w = .ok (.func fn first cap) w:=fun _ _ _ _=>rfl;have ap:=ad.len;rw[lL]at ap;have aB:=za ap.symm;clear ap;unfold Ah;dsimp only;obtain⟨R,hR⟩:∃R:Ending->X->Prop,(fun e w'=>e=.returned (C true)/\w.grownBy w' (I go)/\Ea 3 1 w' l (Z (I ⟨go,0,V⟩) n n) ((os.set k (pe os L+1)).map ic))=R:=⟨_,rfl⟩;rw[hR];have HR:=za hR;have hA:w.grownBy (w.alloc (G #[.string nm,Z va vn vc,Y O d,Y O de,Y O gx,Y O gz,Y O wy,Y O ax,Y O az,Y .u8 sk,Y O k,Y O xl,Y O xh,Y O zl,Y O zh] 113)) V:=World.grownBy_alloc _ _ _;obtain⟨v1,aq,ab,al,-⟩:=(hG.keptLow hA sM (fun j h=>by cases h)).at (by unfold maxLen;omega) (k:=k) oM;rw[hL]at ab al;have hC:=za (fun(W:X)(hW:Ba w W)(b':Nat)(v:J)(h:Ud W v L)=>JE W v L b2 (fun z=>os.getD z.toNat 0==0) h (fun W' aD z hz=>UD W' b2 go n os z ((hW.trans aD).e ho) ((ad.ext (hW.trans aD)).is) (hf z hz).1 (hf z hz).2.1));have hany:(L.any fun z=>os.getD z.toNat 0==0)=false:=by
  rw[List.any_eq_false];intro z hz;simpa using (hf z hz).2.2
 rw[hany]at hC;have m0:=Aa hm 0 (.map (I B));have o0:=Aa ho 0 (Z (I ⟨go,0,V⟩) n n);have zm:=Ya hm;have zo:=Ya ho;have bc:b1<w.heap.size+1:=oM;have bg:b2<w.heap.size+1:=oM;have HG:=za hG;have an:=za ad;have au:=za ho;have aK:=za hm;have HL:=za hL;have Hf:=za hf;have aA:=za aH;have av:=za aG;have af:=za ((qq ab).is);clear hG ad ho hm hL hf hR hany aH ab al aG;go_in;go_wp2_with(go_at_call 37;refine cM (hC.o _ eA b1 _ af.o) ?_;rintro e w2 ⟨rfl,r⟩;obtain⟨v2,aU,q,am,-⟩:=((HG.o.keptLow hA sM (fun j h=>by cases h)).keptLow (Ck (Mn _ V) (r.belowB (nE _))) sM (fun j h=>by cases h)).at (by unfold maxLen;omega) (k:=k) oM;rw[HL.o]at q am;obtain⟨la,ln,lc,rfl⟩:=(qq q).i;obtain⟨aP,aQ⟩:=r.cells;have z2:=r.size;simp only[wZ]at z2;have be:b1<w2.heap.size:=oM;have bh:b2<w2.heap.size:=oM;have ba:w.heap.size<w2.heap.size:=oM);have aE:w.grownBy w2 (I go):=Ck (Mn w (I go)) ((((eR w).alloc _).trans r).belowB (nE _));have X2:Ba w w2:=((eR w).alloc _).trans r;have K3:=r.e (aN w (G #[.string nm,Z va vn vc,Y O d,Y O de,Y O gx,Y O gz,Y O wy,Y O ax,Y O az,Y .u8 sk,Y O k,Y O xl,Y O xh,Y O zl,Y O zh] 113));have aL:=za (X2.e au.o);have aC:=za (an.o.ext X2);have m:=za (show ln=L.length by have:=(qq q).len;rw[lL]at this;exact this);have ag:=za q;have aI:=za K3;have aJ:=za aE;have aW:ln<=1000000:=by have:=m.o;omega
 have aO:w.heap.size≠go:=by
  intro e;have:=(an.o.lt go rfl).2;omega
 clear aP aQ r X2 hA q K3 aE HG hC af aq an au aK HL am m0 o0;go_loopg [18] ln (qV w2 l go n k os L)
 case atStart =>
  refine⟨0,by omega,rfl,by rw[m.o];rfl,Mn _ _,?_⟩;rw[List.take_zero,show pe os []=0 from rfl];have e:os.set k 0=os:=by
   apply List.ext_getElem?;intro j;rw[List.getElem?_set];split
   ·rename_i h;subst h;have:=av.o;rw[gD]at this;split
    ·rename_i h2;rw[gE h2]at this ⊢;simpa using this.symm
    ·rw[List.getElem?_eq_none oM]
   ·rfl
  rw[e];exact aC.o
 case round =>
  obtain⟨i,hi,rfl,rfl,hg,b⟩:=hrel;rw[<-m.o]at hi;have a4:=hg.size;have ai:=(hg.block w.heap.size oM (by simp;omega)).trans aI.o;have ak:=(hg.block b2 oM (by simp;omega)).trans aL.o;have aX:=Aa ai 10 (Y O k);have c0:=Aa ak 0 (Z (I ⟨go,0,V⟩) n n);obtain⟨cur,aj⟩:=b.frz;have a1:=Za aj;obtain⟨t,ac⟩:=gX (pe os (L.take i));rw[ac]at b;have aT:=oJ aA.o (L.take i);rw[ac]at aT;have ao:k<os.length:=by rw[aB.o];exact hk
  have ck:=b.cell (i:=k) (j:=0) (u:=Y O t) (by rw[lP,List.getElem?_set_self ao];rfl) rfl;rw[Nat.mul_one,Nat.add_zero]at ck;have bb:=(b.lt go rfl).2;have aa:=za b;have Hg:=za hg;have aw:=za ac;have bi:w.heap.size<wr.heap.size:=oM;have bj:b2<wr.heap.size:=oM;have a8:(0:Int)<=(k:Int):=oM;have a9:(k:Int)<(n:Int):=oM;clear ai ak aj b ac;by_cases aS:i<ln
  ·obtain⟨z,hz⟩:∃z,L[i]?=I z:=⟨L[i]'(by rw[<-m.o];exact aS),gE _⟩;obtain⟨z0,z1,ar⟩:=Hf.o z (lM hz);obtain⟨zi,rfl⟩:∃zi:Nat,z=(zi:Int):=⟨z.toNat,by omega⟩;obtain⟨y,hy⟩:∃y,os[zi]?=I y:=⟨os[zi]'(by rw[aB.o];omega),gE _⟩;have ae:os.getD zi 0=y:=by rw[gD,hy];rfl
   rw[Int.toNat_natCast,ae]at ar;have aV:k≠zi:=by intro e;subst e;exact ar (ae.symm.trans av.o)
   have a7:=aA.o y (lM hy);have aF:=(qq (ag.o.kept hg (.inr (by intro e;have:=(ag.o.1.lt _ e).1;omega)))).is;obtain⟨b',o',rfl,a0,d0⟩:=aF.at' hz;have cz:=aa.o.cell (i:=zi) (j:=0) (u:=Y O y) (by rw[lP,List.getElem?_set_ne aV,hy];rfl) rfl;rw[Nat.mul_one,Nat.add_zero]at cz;have aM:=za (show pe os (L.take (i+1))=max t y by rw[ze _ _ _ hz,LO,aw.o,Int.toNat_natCast,ae]);have bf:zi<n:=oM;have aY:((zi:Int)).toNat=zi:=Int.toNat_natCast _;clear hz aF hy hg ar ae;go_wp2;refine Ti (fun i=>decide (13<i)) (Da [(⟨b2,0,V⟩,Z (I ⟨go,0,V⟩) n n),(⟨w.heap.size,10,V⟩,Y O k),(⟨go,k,V⟩,Y O t),(⟨go,zi,V⟩,Y O y)]) kM ?_ (fun s=>?_)
   ·exact cA
   refine sN 0 ?_
   iterate 12 refine Ui ?_
   refine oN ?_;refine Ed (i:=12) fun K hK=>?_;go_simp;refine kO hK (fun _=>s) (fun s=>?_);clear hK K;have s:=s rfl;refine so (i:=13) ?_;refine Ed (i:=14) fun K hK=>?_;go_simp;refine kO hK (fun h=>nomatch h) (fun s=>?_);clear hK K;refine Ub kM ?_ _;clear s;go_wp2;go_roundg (ln-(i+1))
   case measure=>have:=m.o;omega
   case rel =>
    have h1:=aa.o.put1 (i:=k) (by rw[List.length_set];exact ao) (max t y);rw[List.set_set]at h1;have h2:=Bk Hg.o k (Y O (max t y));refine⟨i+1,by rw[<-m.o];omega,by go_num,by rw[<-m.o],Ck h2 ((eR _).drew.belowB h2.size),?_⟩;rw[aM.o];exact h1.ext (eR _).drew
  ·obtain rfl:i=ln:=oM;have ah:L.take i=L:=lT (by rw[<-m.o];exact nE _);have ay:=za (show pe os L=t by rw[<-aw.o,ah]);have a5:IntKind.i64.wrap (t+1)=t+1:=iW _ ⟨by omega,by omega⟩;have a6:wrap64 (t+1)=t+1:=IntWalk.wrap64_in _ ⟨by omega,by omega⟩;clear ah;go_wp2;rw[<-HR.o];have h1:=aa.o.put1 (i:=k) (by rw[List.length_set];exact ao) (t+1);rw[List.set_set]at h1;exact⟨rfl,Bk (aJ.o.trans Hg.o) k (Y O (t+1)),by rw[ay.o];exact h1⟩
end
section
open Go.RowKit Go.Shelf Go.Sort
section
variable {p o:Pl} (hp:Fa p=true) (ho:Fa o=true)
include hp ho
end
set_option linter.unusedSectionVars false
section
variable {g:LP} {ps:List Pl} {p:Pl} (h0:Eb g ps=0) (hp:Fa p=true) (hh:ve g p=true) (hc:Kf g ps p=true)
include h0 hp hh hc
end
def Wi:(0:Rat)<1/2:=by decide +kernel
end
section
open Go.RowKit Go.Shelf Go.Maps Go.Sort Go.Lib
def mg(ks:List (JS×J))(z:Int):Bool:=decide (0<=z)&&ks.any fun x=>x.1.k==z
def Zf(ks:List (JS×J))(b:List Be)(q:Nat):List Int:=((b.take q).map (·.num)).filter (mg ks)
def EO{ks d q b}(h:d[q]?=I b):Zf ks d (q+1)=Zf ks d q++(if mg ks b.num=true then [b.num]else []):=by
 unfold Zf;rw[ze _ _ _ h,List.map_append,List.filter_append]
 congr 1
 by_cases c:mg ks b.num=true
 ·rw[if_pos c];simp[c]
 ·rw[if_neg c];simp[c]
def Ih(f:Nat->List Int)(k:Nat)(L:List Int):Nat->List Int:=fun j=>if j=k then f k++L else f j
def NL f k:Ih f k []=f:=by
 funext j
 unfold Ih;split
 ·rename_i h;rw[h,List.append_nil]
 ·rfl
def DO f k L z:(fun j=>if j=k then Ih f k L k++[z]else Ih f k L j)=Ih f k (L++[z]):=by
 funext j
 unfold Ih;by_cases h:j=k
 ·simp[h]
 ·simp[h]
def rh(base B:Nat)(W0 W:X):Prop:=(W0.heap.size<=W.heap.size/\W.os=W0.os/\W.tape=W0.tape/\W.output=W0.output)/\∀b o,W0.heap[b]?=I o->b≠B->(b<base\/∀cs fr,o ≠ G cs 3 fr)->W.heap[b]?=I o
def rh.refl base B W:rh base B W W:=⟨⟨nE _,rfl,rfl,rfl⟩,fun _ _ h _ _=>h⟩
def rh.trans{base B W0 W1 c}(h:rh base B W0 W1)(k:rh base B W1 c):rh base B W0 c:=
 ⟨⟨nT h.1.1 k.1.1,k.1.2.1.trans h.1.2.1,k.1.2.2.1.trans h.1.2.2.1,k.1.2.2.2.trans h.1.2.2.2⟩,fun b o e d ho=>k.2 b o (h.2 b o e d ho) d ho⟩
def rh.ofExt{base B W0 W}(h:Ba W0 W):rh base B W0 W:=⟨⟨h.size,h.os,h.tape,h.output⟩,fun _ _ b _ _=>h.e b⟩
def rh.ofMap{base B W0 W}(h:W0.grownBy W (I B)):rh base B W0 W:=⟨⟨h.size,h.os,h.tape,h.output⟩,fun b o c d _=>(h.block b (Ya c) (by simpa using d)).trans c⟩
def rh.ofRow{base B W0 W v cs}(ho:Ea 3 1 W0 base v cs)(h:W0.grownBy W v.ownBlock):rh base B W0 W:=
 ⟨⟨h.size,h.os,h.tape,h.output⟩,fun b o c f hc=>(h.block b (Ya c) (fun e=>by
  rcases hc with hc|hc
  ·have:=(ho.lt b e.symm).1;omega
  ·rcases ho.2.2 with ⟨d,_⟩|⟨g,cap,cur,hv,_,hh,_⟩
   ·rw[d]at e;cases e
   ·rw[hv]at e;cases e;rw[c]at hh;cases hh;exact hc _ _ rfl)).trans c⟩
def rh.ext{base B w W0 W}(h:rh base B W0 W)(k:Ba w W0)(d:w.heap.size<=base)(c:w.heap.size<=B):Ba w W:=
 ⟨h.1.2.1.trans k.os,h.1.2.2.1.trans k.tape,h.1.2.2.2.trans k.output,nT k.size h.1.1,fun i b=>by
  have e:w.heap[i]?=I (w.heap[i]'b):=Array.getElem?_eq_getElem b;rw[e];exact h.2 i _ (k.e e) oM (.inl oM)⟩
def rh.keepT{base B W0 W T}(h:rh base B W0 W)(f:T≠3)(i:∀cs fr,W0.heap[B]?≠I (G cs T fr)):Ja T W0 W:=fun b j fr c =>
 h.2 b _ c (fun e=>by subst e;exact i _ _ c) (.inr fun cs d e=>by cases e;exact f rfl)
def Gm.map{W base B n f}(h:Gm W base B n f):∃es clock,W.heap[B]?=I (.map es clock):=by obtain⟨D,⟨es,clock,b,_⟩,_⟩:=h;exact⟨es,clock,b⟩
def Gm.notCells{W base B n f}(h:Gm W base B n f){T}:∀cs fr,W.heap[B]?≠I (G cs T fr):=fun cs fr e=>by
 obtain⟨d,b,c⟩:=h.map;rw[c]at e;cases e
def Gm.ext{W W' base B n f}(h:Gm W base B n f)(k:Ba W W'):Gm W' base B n f:=
 h.keptLow (Ck (Mn W V) (k.belowB (nE _))) sM (fun j b=>by cases b)
def JU(_:X)(c:List J)(b:Be):Prop:=∃a m c1 s a2 m2 c2 b1 n k t b2 n2 k2 a' m' c' s' a2' m2' c2' b' n' k' t' b2' n2' k2' e1 e2 e3 e4,c=[Y O b.num,Z a m c1,C s,Z a2 m2 c2,Z b1 n k,C t,Z b2 n2 k2,Z a' m' c',C s',Z a2' m2' c2',Z b' n' k',C t',Z b2' n2' k2',Y O e1,Y O e2,Y O e3,Y O e4]
abbrev Kn(w:X)(v:J)(bs:List Be):Prop:=Sl 185 17 JU w v bs
def Td.bes{w base v r}(h:Td w base v r):Kn w v r:=by obtain⟨cs,h1,h2,h3⟩:=h;refine Ea.sl h1 h2 (fun i c x hc hx=>?_);obtain⟨a,m,W,s,y,m2,c2,K,n,k,t,L,n2,k2,u,m',R,s',b,l,f,z,n',k',t',d,q,j,e⟩:=(h3 i c x hc hx).form;exact⟨a,m,W,s,y,m2,c2,K,n,k,t,L,n2,k2,u,m',R,s',b,l,f,z,n',k',t',d,q,j,_,_,_,_,e⟩
end
section
open Go.RowKit Go.Shelf Go.Maps Go.Sort Go.Lib
attribute [local go_sem] Oper.semAt_some
def jJ w x K t B base m N go n f(os:List Int)(k:Nat)(aa:x.1.k=(k:Int))(hv:∃a n c,x.2=Z a n c)(hm:w.heap[K]?=I (G #[.map (I B)] 171 (0,0)))(ho:w.heap[t]?=I (G #[Z (I ⟨go,0,V⟩) n n] 47 (0,0)))(hG:Gm w base B N f)(hN:N<1000000)(i:Ea 3 1 w m (Z (I ⟨go,0,V⟩) n n) (os.map ic))(hk:k<n)(hn:n<=120)(y:∀z∈f k,0<=z/\z<n)(q:∃z∈f k,os.getD z.toNat 0=0):Calls Tryz.prog 102 #[P (Ah x),S (I ⟨K,0,V⟩),S (I ⟨t,0,V⟩)] w fun e w'=>e=.returned (C false)/\Ba w w':=by
 obtain⟨⟨⟨nm,sh,d,de,gx,gz,wy,ax,az,sk⟩,kk,⟨xl,xh⟩,zl,zh⟩,v⟩:=x;obtain⟨va,vn,vc,rfl⟩:=hv;dsimp only at *;subst aa;obtain⟨L,hL⟩:=gX (f k);rw[hL]at y q;have ah:∀(fn:Fn)(first cap:Array J)(w:X),(Instr.makeFunc fn first cap).run Tryz.prog w = .ok (.func fn first cap) w:=fun _ _ _ _=>rfl;have r:=i.len;rw[lL]at r;have af:=za r.symm;clear r;unfold Ah;dsimp only;obtain⟨R,hR⟩:∃R:Ending->X->Prop,(fun e w'=>e=.returned (C false)/\Ba w w')=R:=⟨_,rfl⟩;rw[hR];have HR:=za hR;have hA:w.grownBy (w.alloc (G #[.string nm,Z va vn vc,Y O d,Y O de,Y O gx,Y O gz,Y O wy,Y O ax,Y O az,Y .u8 sk,Y O k,Y O xl,Y O xh,Y O zl,Y O zh] 113)) V:=World.grownBy_alloc _ _ _;obtain⟨v1,ab,b,l,-⟩:=(hG.keptLow hA sM (fun j h=>by cases h)).at (by unfold maxLen;omega) (k:=k) oM;rw[hL]at b l;have hC:=za (fun(W:X)(hW:Ba w W)(b':Nat)(v:J)(h:Ud W v L)=>JE W v L t (fun z=>os.getD z.toNat 0==0) h (fun W' u z hz=>UD W' t go n os z ((hW.trans u).e ho) ((i.ext (hW.trans u)).is) (y z hz).1 (y z hz).2));have hany:(L.any fun z=>os.getD z.toNat 0==0)=true:=by
  obtain⟨z,hz,h0⟩:=q;exact List.any_eq_true.2 ⟨z,hz,by simpa using h0⟩
 rw[hany]at hC;have m0:=Aa hm 0 (.map (I B));have o0:=Aa ho 0 (Z (I ⟨go,0,V⟩) n n);have zm:=Ya hm;have zo:=Ya ho;have ai:K<w.heap.size+1:=oM;have aj:t<w.heap.size+1:=oM;have HG:=za hG;have ag:=za i;have ae:=za ho;have ad:=za hm;have HL:=za hL;have Hf:=za y;have s:=za ((qq b).is);clear hG i ho hm hL y hR hany q b l;go_in;go_wp2_with(go_at_call 37;refine cM (hC.o _ eA K _ s.o) ?_;rintro e w2 ⟨rfl,ac⟩);rw[<-HR.o];exact⟨rfl,((eR w).alloc _).trans ac⟩
