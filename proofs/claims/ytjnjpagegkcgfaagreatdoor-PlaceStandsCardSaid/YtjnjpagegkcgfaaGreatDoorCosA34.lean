/- Part 35. -/
import Derived.Test.YtjnjpagegkcgfaaGreatDoorCosA33
import Derived.Test.YtjnjpagegkcgfaaGreatDoorCosA26
import Derived.Test.YtjnjpagegkcgfaaGreatDoorCosA17
import Derived.Test.YtjnjpagegkcgfaaGreatDoorCosA24
set_option maxRecDepth 1000000
set_option maxHeartbeats 16000000
set_option linter.unusedSimpArgs false
set_option linter.unusedVariables false
open Go.IntKind renaming i64->O
open Go.Value renaming int->Y,slice->V,agg->J
open Option renaming none->Z,some->N
open Go renaming World->X,Value->I
namespace Go.Proofs.YtjnjpagegkcgfaaGreatDoor.Cop
section
open Go.RowKit Go.Shelf Go.Sort
attribute [local go_sem] Oper.semAt_some
theorem zfn(w:X)(n:Int):Calls Tryz.prog 90 #[Y O n] w fun e c=>e = .returned (.bool (!pfarB n))/\Ext w c:=by
 have b:(!pfarB n)=(decide (-100000<=n)&&decide (n<=100000)):=by
  unfold pfarB;rw[Bool.eq_iff_iff];simp
 rw[b];clear b
 by_cases h : -100000<=n
 ·have a:decide (-100000<=n)=true:=by simpa using h
  go_enter Tryz.func90,Tryz.ntmps90;go_wp2;go_ret;exact⟨by simp[a],eA⟩
 ·have a:decide (-100000<=n)=false:=by simpa using h
  go_enter Tryz.func90,Tryz.ntmps90;go_wp2;go_ret;exact⟨by simp[a],eA⟩
theorem zlg(w:X)(v:I)(p:Pl)(h:IsPr w v p.shape)(K:p.name.size<=1000000) :
  Calls Tryz.prog 27 #[J (plc p v)] w fun e w'=>e = .returned (.bool (placedOk p))/\Ext w w':=by
 obtain⟨nm,l,d,de,gx,gz,wy,R,T,sk⟩:=p;dsimp only at h K;obtain⟨a,c,rfl⟩:=h.form;obtain⟨n,hn⟩:=gX l.length;have hV:=fun W (hW:Ext w W)=>zhX W nm _ l d de gx gz (h.ext' hW) K
 have hX:=fun W=>zfn W R
 have hZ:=fun W=>zfn W T
 obtain⟨P,t⟩:=gX (placedOk ⟨nm,l,d,de,gx,gz,wy,R,T,sk⟩);rw[t];unfold placedOk wthn at t;dsimp only at t;obtain⟨vb,e1⟩:=gX (stoneB (namedB nm) l d de gx gz);obtain⟨bx,e2⟩:=gX ((!pfarB R));obtain⟨bz,e3⟩:=gX ((!pfarB T));rw[e1,e2,e3]at t;rw[e1]at hV;rw[e2]at hX;rw[e3]at hZ;have o:=hd9 t;have HV:=hd9 hV;have HX:=hd9 hX;have D:=hd9 hZ;clear e1 e2 e3 t hV hX hZ h K;unfold plc;dsimp only;rw[hn]at HV ⊢;clear hn
 cases vb with
 | false =>
  have e:=o.out;simp at e;subst e;go_enter Tryz.func27,Tryz.ntmps27
  go_wp2_with(first|(go_at_call 89;(with_reducible refine(HV.out _ ?_).mono ?_);exact eA;rintro e i ⟨rfl,b⟩;obtain⟨⟨q,u⟩,j⟩:=cK1 w b;(have L:Ext w i:=eA))|(go_at_call 90;(with_reducible refine(HX.out i).mono ?_);rintro e z ⟨rfl,f⟩;obtain⟨⟨r,x⟩,k⟩:=cK1 w f)|(go_at_call 90;(with_reducible refine(D.out z).mono ?_);rintro e Q ⟨rfl,g⟩;obtain⟨⟨s,y⟩,m⟩:=cK1 w g))
  go_ret;exact⟨rfl,eA⟩
 | true =>
 by_cases w0:0<=wy
 case neg =>
  have e:P=false:=by rw[<-o.out];simp[w0]
  subst e;go_enter Tryz.func27,Tryz.ntmps27
  go_wp2_with(first|(go_at_call 89;(with_reducible refine(HV.out _ ?_).mono ?_);exact eA;rintro e i ⟨rfl,b⟩;obtain⟨⟨q,u⟩,j⟩:=cK1 w b;(have L:Ext w i:=eA))|(go_at_call 90;(with_reducible refine(HX.out i).mono ?_);rintro e z ⟨rfl,f⟩;obtain⟨⟨r,x⟩,k⟩:=cK1 w f)|(go_at_call 90;(with_reducible refine(D.out z).mono ?_);rintro e Q ⟨rfl,g⟩;obtain⟨⟨s,y⟩,m⟩:=cK1 w g))
  go_ret;exact⟨rfl,eA⟩
 by_cases i:wy<=7
 case neg =>
  have e:P=false:=by rw[<-o.out];simp[i]
  subst e;go_enter Tryz.func27,Tryz.ntmps27
  go_wp2_with(first|(go_at_call 89;(with_reducible refine(HV.out _ ?_).mono ?_);exact eA;rintro e i ⟨rfl,b⟩;obtain⟨⟨q,u⟩,j⟩:=cK1 w b;(have L:Ext w i:=eA))|(go_at_call 90;(with_reducible refine(HX.out i).mono ?_);rintro e z ⟨rfl,f⟩;obtain⟨⟨r,x⟩,k⟩:=cK1 w f)|(go_at_call 90;(with_reducible refine(D.out z).mono ?_);rintro e Q ⟨rfl,g⟩;obtain⟨⟨s,y⟩,m⟩:=cK1 w g))
  go_ret;exact⟨rfl,eA⟩
 cases bx with
 | false =>
  have e:P=false:=by rw[<-o.out];simp
  subst e;go_enter Tryz.func27,Tryz.ntmps27
  go_wp2_with(first|(go_at_call 89;(with_reducible refine(HV.out _ ?_).mono ?_);exact eA;rintro e i ⟨rfl,b⟩;obtain⟨⟨q,u⟩,j⟩:=cK1 w b;(have L:Ext w i:=eA))|(go_at_call 90;(with_reducible refine(HX.out i).mono ?_);rintro e z ⟨rfl,f⟩;obtain⟨⟨r,x⟩,k⟩:=cK1 w f)|(go_at_call 90;(with_reducible refine(D.out z).mono ?_);rintro e Q ⟨rfl,g⟩;obtain⟨⟨s,y⟩,m⟩:=cK1 w g))
  go_ret;exact⟨rfl,eA⟩
 | true =>
 cases bz with
 | false =>
  have e:P=false:=by rw[<-o.out];simp
  subst e;go_enter Tryz.func27,Tryz.ntmps27
  go_wp2_with(first|(go_at_call 89;(with_reducible refine(HV.out _ ?_).mono ?_);exact eA;rintro e i ⟨rfl,b⟩;obtain⟨⟨q,u⟩,j⟩:=cK1 w b;(have L:Ext w i:=eA))|(go_at_call 90;(with_reducible refine(HX.out i).mono ?_);rintro e z ⟨rfl,f⟩;obtain⟨⟨r,x⟩,k⟩:=cK1 w f)|(go_at_call 90;(with_reducible refine(D.out z).mono ?_);rintro e Q ⟨rfl,g⟩;obtain⟨⟨s,y⟩,m⟩:=cK1 w g))
  go_ret;exact⟨rfl,eA⟩
 | true =>
 by_cases s0:1<=sk
 case neg =>
  have e:P=false:=by rw[<-o.out];simp[s0]
  subst e;go_enter Tryz.func27,Tryz.ntmps27
  go_wp2_with(first|(go_at_call 89;(with_reducible refine(HV.out _ ?_).mono ?_);exact eA;rintro e i ⟨rfl,b⟩;obtain⟨⟨q,u⟩,j⟩:=cK1 w b;(have L:Ext w i:=eA))|(go_at_call 90;(with_reducible refine(HX.out i).mono ?_);rintro e z ⟨rfl,f⟩;obtain⟨⟨r,x⟩,k⟩:=cK1 w f)|(go_at_call 90;(with_reducible refine(D.out z).mono ?_);rintro e Q ⟨rfl,g⟩;obtain⟨⟨s,y⟩,m⟩:=cK1 w g))
  go_ret;exact⟨rfl,eA⟩
 have e:P=decide (sk<=3):=by rw[<-o.out];simp[w0,i,s0]
 subst e;go_enter Tryz.func27,Tryz.ntmps27
 go_wp2_with(first|(go_at_call 89;(with_reducible refine(HV.out _ ?_).mono ?_);exact eA;rintro e i ⟨rfl,b⟩;obtain⟨⟨q,u⟩,j⟩:=cK1 w b;(have L:Ext w i:=eA))|(go_at_call 90;(with_reducible refine(HX.out i).mono ?_);rintro e z ⟨rfl,f⟩;obtain⟨⟨r,x⟩,k⟩:=cK1 w f)|(go_at_call 90;(with_reducible refine(D.out z).mono ?_);rintro e Q ⟨rfl,g⟩;obtain⟨⟨s,y⟩,m⟩:=cK1 w g))
 go_ret;exact⟨rfl,eA⟩
def LayS(w:X)(a:Int×Int)(m:Nat)(t5:I)(W:X):Prop:=
 ∃i:Nat,t5=Y O i/\i<=m/\Ext w W/\W.heap[w.heap.size]?=N (.cells #[Y O (rotN i a).1,Y O (rotN i a).2] 27 (0,0))/\W.heap[w.heap.size+1]?=N (.cells #[Y O 0,Y O 0] 27 (0,0))
theorem zhl{p:Int×Int}(h:Bd 1000000 p.1/\Bd 1000000 p.2):∀i,Bd 1000000 (rotN i p).1/\Bd 1000000 (rotN i p).2
 | 0=>h
 | i+1=>by
  have a:=zhl h i;have e:rotN (i+1) p=(-(rotN i p).2,(rotN i p).1):=rfl;rw[e];unfold Bd at *;dsimp only;omega
theorem zml{p:Int×Int}(h:Bd 1000000 p.1/\Bd 1000000 p.2)(way:Int):Bd 1000000 (layR way p).1/\Bd 1000000 (layR way p).2:=by
 unfold layR;refine zhl ?_ _
 split
 ·unfold Bd at *;dsimp only;omega
 ·exact h
theorem zgY(w:X)(p:Int×Int)(way:Int)(h0:0<=way)(h1:way<=7)(hB:Bd 1000000 p.1/\Bd 1000000 p.2) :
  Calls Tryz.prog 94 #[J #[Y O p.1,Y O p.2],Y O way] w fun e K=>e = .returned (J #[Y O (layR way p).1,Y O (layR way p).2])/\Ext w K:=by
 obtain⟨x,z⟩:=p;dsimp only at hB ⊢;obtain⟨D,d⟩:=hB;obtain⟨m,hm⟩:=gX ((way % 4).toNat);have ad:Int.tmod way 4=(m:Int):=by rw[Int.tmod_eq_emod_of_nonneg h0];omega
 have ae:m<=3:=oM
 have Hm:=hd9 hm;clear hm
 have l:4<=way->Calls Tryz.prog 94 #[J #[Y O x,Y O z],Y O way] w fun e K=>e = .returned (J #[Y O (layR way (x,z)).1,Y O (layR way (x,z)).2])/\Ext w K:=by
  intro t;have f:layR way (x,z)=rotN m (-x,z):=by unfold layR;rw[Hm.out];simp[t]
  have c:=zhl (p:=(-x,z)) ⟨by unfold Bd at *;dsimp only;omega,d⟩;rw[f];have k:=hd9 c;clear f c;unfold Bd at D d;go_enter Tryz.func94,Tryz.ntmps94;go_wp2
  go_loopw [5] (LayS w (-x,z) m) (fun t5 _=>m-(intOf t5).toNat)
  case atStart =>
   refine⟨0,rfl,by omega,eA,?_,?_⟩
   ·first|exact nbh0 .. | exact zaj (nbh0 ..) _ _
   ·exact qhA _ _ _ sM
  case round =>
   obtain⟨i,rfl,hi,hx,a,b⟩:=hrel;obtain⟨⟨q,s⟩,o⟩:∃r,rotN i (-x,z)=r:=⟨_,rfl⟩;have c:=k.out i;rw[o]at a c;unfold Bd at c;dsimp only at a c;have r0:=qcB a (i:=0) (u:=Y O q) rfl;have r1:=qcB a (i:=1) (u:=Y O s) rfl;have T:=qfB a 0;have W:=qfB a 1;have s0:=qcB b (i:=0) (u:=Y O 0) rfl;have s1:=qcB b (i:=1) (u:=Y O 0) rfl;have ab:=qfB b 0;have ac:=qfB b 1;have sz:=zaa b;have aa:=zaa a;have g:=hd9 a;have j:=hd9 b;have y:=hd9 o;obtain⟨Q,R⟩:=c;clear a b o
   by_cases P:i<m
   ·have L:(i:Int)<(m:Int):=oM
    go_wp2
    go_roundw
    case rel =>
     have f:rotN (i+1) (-x,z)=(-s,q):=by rw[rotN,y.out]
     refine⟨i+1,by go_num,by omega,eA,?_,?_⟩
     ·rw[f];exact zaj g.out _ _
     ·exact zaL j.out oM _ _
    case measure=>simp[intOf];omega
   ·obtain rfl:i=m:=oM
    have L:¬(i:Int)<(i:Int):=oM
    go_wp2;exact bR (v:=J #[Y O q,Y O s]) (by simp[results,Tryz.results94,go_sem,s0,s1,sz]) rfl ⟨zbh (by rw[y.out]),eA⟩
 have n:¬4<=way->Calls Tryz.prog 94 #[J #[Y O x,Y O z],Y O way] w fun e K=>e = .returned (J #[Y O (layR way (x,z)).1,Y O (layR way (x,z)).2])/\Ext w K:=by
  intro t;have f:layR way (x,z)=rotN m (x,z):=by unfold layR;rw[Hm.out];simp[t]
  have c:=zhl (p:=(x,z)) ⟨by unfold Bd at *;dsimp only;omega,d⟩;rw[f];have k:=hd9 c;clear f c;unfold Bd at D d;go_enter Tryz.func94,Tryz.ntmps94;go_wp2
  go_loopw [5] (LayS w (x,z) m) (fun t5 _=>m-(intOf t5).toNat)
  case atStart =>
   refine⟨0,rfl,by omega,eA,?_,?_⟩
   ·first|exact nbh0 .. | exact zaj (nbh0 ..) _ _
   ·exact qhA _ _ _ sM
  case round =>
   obtain⟨i,rfl,hi,hx,a,b⟩:=hrel;obtain⟨⟨q,s⟩,o⟩:∃r,rotN i (x,z)=r:=⟨_,rfl⟩;have c:=k.out i;rw[o]at a c;unfold Bd at c;dsimp only at a c;have r0:=qcB a (i:=0) (u:=Y O q) rfl;have r1:=qcB a (i:=1) (u:=Y O s) rfl;have T:=qfB a 0;have W:=qfB a 1;have s0:=qcB b (i:=0) (u:=Y O 0) rfl;have s1:=qcB b (i:=1) (u:=Y O 0) rfl;have ab:=qfB b 0;have ac:=qfB b 1;have sz:=zaa b;have aa:=zaa a;have g:=hd9 a;have j:=hd9 b;have y:=hd9 o;obtain⟨Q,R⟩:=c;clear a b o
   by_cases P:i<m
   ·have L:(i:Int)<(m:Int):=oM
    go_wp2
    go_roundw
    case rel =>
     have f:rotN (i+1) (x,z)=(-s,q):=by rw[rotN,y.out]
     refine⟨i+1,by go_num,by omega,eA,?_,?_⟩
     ·rw[f];exact zaj g.out _ _
     ·exact zaL j.out oM _ _
    case measure=>simp[intOf];omega
   ·obtain rfl:i=m:=oM
    have L:¬(i:Int)<(i:Int):=oM
    go_wp2;exact bR (v:=J #[Y O q,Y O s]) (by simp[results,Tryz.results94,go_sem,s0,s1,sz]) rfl ⟨zbh (by rw[y.out]),eA⟩
 by_cases t:4<=way
 ·exact l t
 ·exact n t
theorem zdF:(Tryz.prog.info? 27).map (fun i=>(i.zero,i.size,i.bytes))=N (N (J #[Y O 0,Y O 0]),2,16):=kM
theorem OwnC.pr{w:X}{base:Nat}{v:I}{b:LP}(h:OwnC 27 2 w base v (b.map pc)):IsPr w v b:=
 ⟨_,OwnC.sl h sM (fun i c x a d=>by
  rw[lP,d]at a
  cases a;rfl)⟩
def RetRow(w:X)(a:LP)(e:Ending)(w':X):Prop:=∃v,e = .returned v/\OwnC 27 2 w' w.heap.size v (a.map pc)/\Ext w w'
theorem zdV{α:Type}(f:Nat->α)(i:Nat):(List.range (i+1)).map f=(List.range i).map f++[f i]:=by rw[List.range_succ,List.map_append];rfl
theorem zdQ(W:X)(x z:Int):∀(j:Nat) u,[pc (x,z)].flatten[j]?=N u->(W.alloc (Obj.cells #[Value.int O (x),Value.int O (z)] 27)).cell? ((⟨W.heap.size,0,Z⟩:Addr).add j)=N u:=zgs W x z _
def SeS(b:X)(g4:Nat)(m:Int×Int)(f:Nat->Int×Int)(n:Nat)(t3 a:I)(W:X):Prop:=
 ∃i:Nat,a=Y O i/\i<=n/\OwnC 27 2 W (g4+1) t3 (((List.range i).map f).map pc)/\Ext b W/\W.heap[g4]?=N (Obj.cells #[Value.int O (m.1),Value.int O (m.2)] 27 (0,0))
theorem zgk(w:X)(v:I)(l:LP)(h:IsPr w v l)(hB:∀q∈l,Bd 1000000 q.1/\Bd 1000000 q.2)(P:l≠[])(hl:l.length<=1000000) :
  Calls Tryz.prog 95 #[v] w (RetRow w (settR l)):=by
 obtain⟨a,c,rfl⟩:=h.form;obtain⟨n,L⟩:=gX l.length;have ak:0<n:=by rw[<-L];exact List.length_pos_iff.2 P
 have f:=fun W (hW:Ext w W)=>zgZ W _ l (h.ext' hW) P
 have p:=fun W (hW:Ext w W)=>zes W _ l (h.ext' hW)
 have ai:firN l n<n:=by
  rw[<-L];have e:=zge l (n-1) oM;rw[show n-1+1=n by omega]at e;rw[L];exact e.1
 have r:Bd 1000000 (leastP l).1/\Bd 1000000 (leastP l).2:=by
  rw[<-zgr P]
  have:∀i,i<=l.length->Bd 1000000 (lwN l i).1/\Bd 1000000 (lwN l i).2:=by
   intro i
   induction i with
   | zero=>intro _;exact hB _ (zaw oM)
   | succ i ih =>
    intro hi;have h1:=ih oM;have h2:=hB _ (zaw (l:=l) (i:=i) oM);have e:lwN l (i+1)=(min (lwN l i).1 (ptN l i).1,min (lwN l i).2 (ptN l i).2):=rfl;rw[e];unfold Bd at *;dsimp only;omega
  exact this _ (nE _)
 have y:settR l=(List.range n).map fun i=>((ptN l ((firN l n+i) % n)).1-(leastP l).1,(ptN l ((firN l n+i) % n)).2-(leastP l).2):=by unfold settR;rw[L]
 rw[y];rw[L]at f p hl ⊢;obtain⟨⟨D,mz⟩,hm⟩:∃m,leastP l=m:=⟨_,rfl⟩;obtain⟨f0,aa⟩:=gX (firN l n);rw[hm]at f r ⊢;rw[aa]at p ai ⊢;dsimp only at f r ⊢;obtain⟨F,hF⟩:∃F:Nat->Int×Int,(fun i=>((ptN l ((f0+i) % n)).1-D,(ptN l ((f0+i) % n)).2-mz))=F:=⟨_,rfl⟩;rw[hF];have HF:=hd9 hF;have ah:=hd9 f;have ag:=hd9 p;have Hn:=hd9 L;have H:=hd9 h;have HB:=hd9 hB;unfold Bd at r;obtain⟨av,aw⟩:=r;clear f p L h hB y hm aa hF;go_enter Tryz.func95,Tryz.ntmps95
 go_wp2_with(first|(go_at_call 164;(with_reducible refine(ah.out _ (eR _)).mono ?_);rintro e w1 ⟨rfl,ae⟩)|(go_at_call 165;(with_reducible refine(ag.out _ ae).mono ?_);rintro e w2 ⟨rfl,al⟩))
 have X2:Ext w w2:=ae.trans al
 go_loopw [3,6] (SeS w2 w2.heap.size (D,mz) F n) (fun _ t6 _=>n-(intOf t6).toNat)
 case atStart=>exact⟨0,rfl,by omega,OwnC.nil _ _ _ _,(eR _).alloc _,aN _ _⟩
 case round =>
  obtain⟨g4,aj⟩:=gX w2.heap.size;rw[aj]at hrel ⊢;obtain⟨i,rfl,hi,g,hx,hb⟩:=hrel;have p0:=qcB hb (i:=0) (u:=Y O D) rfl;have p1:=qcB hb (i:=1) (u:=Y O mz) rfl;have pz:=zaa hb;have Hb:=hd9 hb;have XW:Ext w wr:=X2.trans hx;obtain⟨va,vn,vc,rfl⟩:=g.form3;have d:=hd9 g;have ay:=X2.size;clear hb g
  by_cases au:i<n
  ·obtain⟨k,R⟩:=gX ((f0+i) % n)
   have ab:k<n:=by rw[<-R];exact Nat.mod_lt _ ak
   have ar:Int.tmod ((f0:Int)+(i:Int)) (n:Int)=(k:Int):=by rw[Int.tmod_eq_emod_of_nonneg oM,<-R,Int.natCast_emod];rfl
   obtain⟨b,o,rfl,aq,c0,c1⟩:=(H.out.ext' XW).pt (i:=k) (by rw[Hn.out];exact ab);have bk:=HB.out _ (zaw (l:=l) (i:=k) (by rw[Hn.out];exact ab));have j:F i=((ptN l k).1-D,(ptN l k).2-mz):=by rw[<-HF.out,<-R]
   obtain⟨⟨x,z⟩,hq⟩:∃q,ptN l k=q:=⟨_,rfl⟩;rw[hq]at c0 c1 bk j;unfold Bd at bk;dsimp only at c0 c1 bk j;obtain⟨ao,ap⟩:=bk;have af:=hd9 j;have g0:(0:Int)<=(k:Int):=oM
   have g1:(k:Int)<(n:Int):=oM
   have g2:(i:Int)<(n:Int):=oM
   have ax:¬(n:Int)=0:=oM
   have an:¬n=0:=oM
   clear R hq j
   go_wp2_with(at_builtin;refine appC (T:=27) (t:=22) (z:=J #[Y O 0,Y O 0]) (k:=2) (bytes:=16) (base:=g4+1) (v:=V va vn vc) (m:=1) (c:=1) (ad:=⟨wr.heap.size+1,0,Z⟩) zdF rfl dM dM Tryz.underlying22 rfl _ _ rfl rfl (d.out.ext (((eR wr).alloc _).alloc _)) rfl [pc (x-D,z-mz)] rfl (by simp[pc]) (by simpa using zdQ (wr.alloc (Obj.cells #[Value.int O (x),Value.int O (z)] 27)) (x-D) (z-mz)) (zdT (x-D) (z-mz)) (by rw[lL,lL,List.length_range];omega) (by simp only[wZ];omega) ?_;intro v' w5 Q K am)
   go_roundw
   case rel =>
    have ac:=d.out.lt;have s:Below (g4+1) wr w5:=((Below.refl _ wr).alloc oM (Obj.cells #[Value.int O (x),Value.int O (z)] 27) |>.alloc (by simp;omega) (Obj.cells #[Value.int O (x-D),Value.int O (z-mz)] 27)).trans (zad K (by simp;omega) (fun k R=>(ac k R).1));refine⟨i+1,by go_num,by omega,?_,hx.thenB s oM,?_⟩
    ·rw[zdV,List.map_append,af.out];exact Q
    ·rw[s.block _ oM];exact Hb.out
   case measure=>simp[intOf];omega
  ·obtain rfl:i=n:=oM
   have g2:¬(i:Int)<(i:Int):=oM
   go_wp2;go_ret;exact⟨_,rfl,d.out.mono oM,XW⟩
def TurS(w:X)(a b:Obj)(f:Nat->Int×Int)(n:Nat)(t5 c:I)(W:X):Prop:=
 ∃i:Nat,c=Y O i/\i<=n/\OwnC 27 2 W (w.heap.size+1+1) t5 (((List.range i).map f).map pc)/\Ext w W/\W.heap[w.heap.size]?=N a/\W.heap[w.heap.size+1]?=N b
def RetTu(w:X)(c:ByteArray)(d a:Int)(g:Int×Int)(b:LP)(e:Ending)(w':X):Prop:=
 ∃v',e = .returned (J #[.string c,v',Y O d,Y O a,Y O g.1,Y O g.2])/\OwnC 27 2 w' w.heap.size v' (b.map pc)/\Ext w w'
theorem zfo(w:X)(nm:ByteArray)(v:I)(l:LP)(d de gx gz way:Int)(h:IsPr w v l)(hB:∀q∈l,Bd 1000000 q.1/\Bd 1000000 q.2)(az:l≠[])(hl:l.length<=1000000)
  (h0:0<=way)(h1:way<=7)(au:Bd 1000000 gx)(av:Bd 1000000 gz) :
  Calls Tryz.prog 33 #[J #[.string nm,v,Y O d,Y O de,Y O gx,Y O gz],Y O way] w (RetTu w nm d de (layR way (gx,gz)) (turnR way l)):=by
 obtain⟨a,c,rfl⟩:=h.form;obtain⟨n,hn⟩:=gX l.length;have aP:0<n:=by rw[<-hn];exact List.length_pos_iff.2 az
 obtain⟨F,hF⟩:∃F:Nat->Int×Int,(fun i=>layR way (ptN l (if 4<=way then n-1-i else i)))=F:=⟨_,rfl⟩;obtain⟨D,s⟩:=gX ((List.range n).map F);have ag:turnR way l=settR D:=by unfold turnR;rw[hn,hF,s]
 have af:D.length=n:=by rw[<-s];simp
 have an:∀q∈D,Bd 1000000 q.1/\Bd 1000000 q.2:=by
  rw[<-s];intro q hq;obtain⟨i,hi,rfl⟩:=List.mem_map.1 hq;rw[<-hF];have hi:=List.mem_range.1 hi;refine zml (hB _ (zaw ?_)) _
  split<;>omega
 rw[ag];obtain⟨⟨g1,g2⟩,hg⟩:∃g,layR way (gx,gz)=g:=⟨_,rfl⟩;have ai:=fun W=>zgY W (gx,gz) way h0 h1 ⟨au,av⟩
 rw[hg]at ai ⊢;dsimp only at ai;have aD:=hd9 ai;have HF:=hd9 hF;have ak:=hd9 s;have aI:=hd9 an;have aJ:=hd9 af;have Hn:=hd9 hn;have H:=hd9 h;have HB:=hd9 hB;rw[hn]at hl ⊢;have aA:=fun W vv (hv:IsPr W vv D)=>zgk W vv D hv an (by intro e;rw[e]at af;simp at af;omega) (by rw[af];exact hl)
 have aE:=hd9 aA;clear hg ai hF s an af hn h hB ag aA au av az;go_enter Tryz.func33,Tryz.ntmps33;go_wp2
 go_loopw [5,6] (TurS w (Obj.cells #[Value.string nm,Value.slice a n c,Value.int O d,Value.int O de,Value.int O gx,Value.int O gz] 29) (Obj.cells #[Value.string ⟨#[]⟩,Value.slice Z 0 0,Value.int O 0,Value.int O 0,Value.int O 0,Value.int O 0] 29) F n) (fun _ t6 _=>n-(intOf t6).toNat)
 case atStart=>exact⟨0,rfl,by omega,OwnC.nil _ _ _ _,eA,nbh0 ..,qhA _ _ _ sM⟩
 case round =>
  obtain⟨i,rfl,hi,ae,hx,hb,al⟩:=hrel;have p0:=qcB hb (i:=0) (u:=.string nm) rfl;have p1:=qcB hb (i:=1) (u:=V a n c) rfl;have p2:=qcB hb (i:=2) (u:=Y O d) rfl;have p3:=qcB hb (i:=3) (u:=Y O de) rfl;have p4:=qcB hb (i:=4) (u:=Y O gx) rfl;have p5:=qcB hb (i:=5) (u:=Y O gz) rfl;have pz:=zaa al;have Hb:=hd9 hb;have P:=hd9 al;obtain⟨va,vn,vc,rfl⟩:=ae.form3;have aa:=hd9 ae;clear hb al ae
  by_cases aO:i<n
  ·obtain⟨k,hk⟩:=gX ((if 4<=way then n-1-i else i))
   have aw:k<n:=by rw[<-hk];split<;>omega
   obtain⟨b,o,rfl,aK,c0,c1⟩:=(H.out.ext' hx).pt (i:=k) (by rw[Hn.out];exact aw);have bk:=HB.out _ (zaw (l:=l) (i:=k) (by rw[Hn.out];exact aw));have ah:F i=layR way (ptN l k):=by rw[<-HF.out,<-hk]
   obtain⟨⟨x,z⟩,hq⟩:∃q,ptN l k=q:=⟨_,rfl⟩;rw[hq]at c0 c1 bk ah;dsimp only at c0 c1 bk;have aj:=fun W=>zgY W (x,z) way h0 h1 bk
   obtain⟨⟨y1,y2⟩,hy⟩:∃y,layR way (x,z)=y:=⟨_,rfl⟩;rw[hy]at aj ah;dsimp only at aj;have ap:=hd9 ah;have aq:=hd9 aj;have k0:(0:Int)<=(k:Int):=oM
   have k1:(k:Int)<(n:Int):=oM
   have k2:(i:Int)<(n:Int):=oM
   clear hq ah hy aj
   by_cases aB:4<=way
   ·have aM:(n:Int)-1-(i:Int)=(k:Int):=by rw[<-hk,if_pos aB];omega
    clear hk
    go_wp2_with(first|(go_at_call 94;(with_reducible refine(aq.out wr).mono ?_);rintro e w4 ⟨rfl,R⟩)|(at_builtin;refine appC (T:=27) (t:=22) (z:=J #[Y O 0,Y O 0]) (k:=2) (bytes:=16) (base:=w.heap.size+1+1) (v:=V va vn vc) (m:=1) (c:=1) (ad:=⟨w4.heap.size,0,Z⟩) zdF rfl dM dM Tryz.underlying22 rfl _ _ rfl rfl (aa.out.ext (R.alloc _)) rfl [pc (y1,y2)] rfl (by simp[pc]) (zdQ w4 y1 y2) (zdT y1 y2) (by rw[lL,lL,List.length_range];omega) (by have:=R.size;simp only[wZ];omega) ?_;intro v' w5 ac ab ax))
    go_roundw
    case rel =>
     have L:=aa.out.lt;have aG:=R.size;have r:Below (w.heap.size+1+1) wr w5:=((R.below oM).alloc oM (Obj.cells #[Value.int O (y1),Value.int O (y2)] 27)).trans (zad ab (by simp;omega) (fun k hk=>(L k hk).1));refine⟨i+1,by go_num,by omega,?_,hx.thenB r oM,?_,?_⟩
     ·rw[zdV,List.map_append,ap.out];exact ac
     ·rw[r.block _ oM];exact Hb.out
     ·rw[r.block _ oM];exact P.out
    case measure=>simp[intOf];omega
   ·obtain rfl:i=k:=by rw[<-hk,if_neg aB]
    clear hk
    go_wp2_with(first|(go_at_call 94;(with_reducible refine(aq.out wr).mono ?_);rintro e w4 ⟨rfl,R⟩)|(at_builtin;refine appC (T:=27) (t:=22) (z:=J #[Y O 0,Y O 0]) (k:=2) (bytes:=16) (base:=w.heap.size+1+1) (v:=V va vn vc) (m:=1) (c:=1) (ad:=⟨w4.heap.size,0,Z⟩) zdF rfl dM dM Tryz.underlying22 rfl _ _ rfl rfl (aa.out.ext (R.alloc _)) rfl [pc (y1,y2)] rfl (by simp[pc]) (zdQ w4 y1 y2) (zdT y1 y2) (by rw[lL,lL,List.length_range];omega) (by have:=R.size;simp only[wZ];omega) ?_;intro v' w5 ac ab ax))
    go_roundw
    case rel =>
     have L:=aa.out.lt;have aG:=R.size;have r:Below (w.heap.size+1+1) wr w5:=((R.below oM).alloc oM (Obj.cells #[Value.int O (y1),Value.int O (y2)] 27)).trans (zad ab (by simp;omega) (fun k hk=>(L k hk).1));refine⟨i+1,by go_num,by omega,?_,hx.thenB r oM,?_,?_⟩
     ·rw[zdV,List.map_append,ap.out];exact ac
     ·rw[r.block _ oM];exact Hb.out
     ·rw[r.block _ oM];exact P.out
    case measure=>simp[intOf];omega
  ·obtain rfl:i=n:=oM
   have k2:¬(i:Int)<(i:Int):=oM
   have aQ:=qfB Hb.out 1;have aR:=qfB Hb.out 4;have aS:=qfB Hb.out 5;have s0:=qcB P.out (i:=0) (u:=.string ⟨#[]⟩) rfl;have s1:=qcB P.out (i:=1) (u:=V Z 0 0) rfl;have s2:=qcB P.out (i:=2) (u:=Y O 0) rfl;have s3:=qcB P.out (i:=3) (u:=Y O 0) rfl;have s4:=qcB P.out (i:=4) (u:=Y O 0) rfl;have s5:=qcB P.out (i:=5) (u:=Y O 0) rfl;have sf:=qfB P.out;have L:IsPr wr (V va vn vc) D:=by rw[<-ak.out];exact aa.out.pr
   have ar:=hd9 L;have zz:w.heap.size<wr.heap.size:=oM
   clear L;go_wp2;refine zae (fun i=>decide (6<i)) (CellL [(⟨w.heap.size,4,Z⟩,Y O gx),(⟨w.heap.size,5,Z⟩,Y O gz)]) kM ?_ (fun f=>?_)
   ·exact cA
   refine tu1 (i:=0) ?_;refine sN 2 ?_
   iterate 3
    refine tun ?_
   refine oN ?_;refine cu1 (i:=1) fun K hK=>?_
   go_simp
   (with_reducible refine cM (aE.out _ _ (ar.out.ext' (eR wr).drew)) ?_)
   rintro e w8 ⟨v8,rfl,am,aC⟩;obtain⟨a8,n8,c8,rfl⟩:=am.form3
   go_wp2_with fail
   refine kO hK (fun _=>cE f aC) (fun f=>?_);clear hK K
   replace f:=f rfl
   refine tu1 (i:=6) ?_;refine cu1 (i:=5) fun K hK=>?_
   go_simp
   (with_reducible refine cM (aD.out w8) ?_)
   rintro e w9 ⟨rfl,ao⟩
   go_wp2_with fail
   refine kO hK (fun _=>cE f ao) (fun f=>?_);clear hK K
   replace f:=f rfl
   have X9:Ext wr w9:=(eR wr).drew.trans (aC.trans ao);obtain⟨aF,aL⟩:=X9.cells;have aT:w.heap.size<w9.heap.size:=X9.lt zz;have aH:w.heap.size+1<w9.heap.size:=X9.lt pz;refine cu1 (i:=7) fun K hK=>?_
   go_simp;refine kO hK (fun h=>nomatch h) (fun f=>?_);clear hK K;refine cu1 (i:=8) fun K hK=>?_
   go_simp;refine kO hK (fun h=>nomatch h) (fun f=>?_);clear hK K;refine cu1 (i:=9) fun K hK=>?_
   go_simp;refine kO hK (fun h=>nomatch h) (fun f=>?_);clear hK K;refine doneHU kM ?_ _;go_wp2;refine bR (v:=J #[.string nm,V a8 n8 c8,Y O d,Y O de,Y O g1,Y O g2]) (by simp[results,Tryz.results33,go_sem,aF,pz,aH,s0,s1,s2,s3,s4,s5]) rfl ⟨_,rfl,?_,eA⟩;have k8:OwnC 27 2 w9 w.heap.size (V a8 n8 c8) ((settR D).map pc):=(am.ext ao).mono (by have:=hx.size;simp only[qdZ];omega);have ay:∀j,(Value.slice a8 n8 c8).ownBlock=N j->wr.heap.size<=j:=fun j hj=>(am.lt j hj).1
   have Q:∀q:Nat,q<wr.heap.size->(Value.slice a8 n8 c8).ownBlock≠N q:=fun q hq e=>by have:=ay q e;omega
   exact((((((((k8.setOther (p:=⟨w.heap.size,1,Z⟩) (Q _ zz) _).setOther (p:=⟨w.heap.size,4,Z⟩) (Q _ zz) _).setOther (p:=⟨w.heap.size,5,Z⟩) (Q _ zz) _).setOther (p:=⟨w.heap.size+1,0,Z⟩) (Q _ pz) _).setOther (p:=⟨w.heap.size+1,1,Z⟩) (Q _ pz) _).setOther (p:=⟨w.heap.size+1,2,Z⟩) (Q _ pz) _).setOther (p:=⟨w.heap.size+1,3,Z⟩) (Q _ pz) _).setOther (p:=⟨w.heap.size+1,4,Z⟩) (Q _ pz) _).setOther (p:=⟨w.heap.size+1,5,Z⟩) (Q _ pz) _
theorem zn1(g:ByteArray)(a:Option Addr)(m c:Nat)(d b e f:Int)(w:X):(Instr.field 29 (J #[.string g,V a m c,Y O d,Y O b,Y O e,Y O f]) 1).run Tryz.prog w = .ok (V a m c) w:=kM
structure PlF (p:Pl):Prop where
 sh:∀q∈p.shape,(0<=q.1/\q.1<=2000)/\(0<=q.2/\q.2<=2000)
 ne:p.shape≠[]
 le:p.shape.length<=12
 w0:0<=p.way
 w1:p.way<=7
 ax:Bd 100000 p.ax
 az:Bd 100000 p.az
 gx:Bd 100 p.gx
 gz:Bd 100 p.gz
theorem zbL{p:Pl}(h:placedOk p=true):PlF p:=by
 unfold placedOk stoneB grainB pfarB wthn at h;rw[<-zjX]at h;simp only[Bool.and_eq_true,Bool.not_eq_true',Bool.or_eq_false_iff,decide_eq_true_eq,decide_eq_false_iff_not]at h;obtain⟨⟨⟨⟨⟨l,a⟩,m⟩,n⟩,⟨⟨o,h6⟩,r⟩⟩,⟨i,j⟩,⟨c,d⟩,⟨h12,f⟩,g⟩:=h;unfold placR at a;simp only[Bool.and_eq_true,List.all_eq_true]at a;have b:=a.2.1;unfold convR wthn at b;simp only[Bool.and_eq_true,decide_eq_true_eq]at b;refine⟨fun q k=>?_,fun e=>?_,by omega,i,j,by unfold Bd;omega,by unfold Bd;omega,by unfold Bd;omega,by unfold Bd;omega⟩
 ·have:=a.1 q k
  unfold wthn at this;simp only[Bool.and_eq_true,decide_eq_true_eq]at this;exact⟨by omega,by omega⟩
 ·rw[e]at b;simp at b
theorem PlF.bd{p:Pl}(h:PlF p):∀q∈p.shape,Bd 1000000 q.1/\Bd 1000000 q.2:=fun q a=>by
 have:=h.sh q a;unfold Bd;omega
theorem zhv{way:Int}{l:LP}(m:∀q∈l,Bd 1000000 q.1/\Bd 1000000 q.2)(g:l≠[]):∀q∈turnR way l,Bd 2000000 q.1/\Bd 2000000 q.2:=by
 intro q d;have n:0<l.length:=List.length_pos_iff.2 g;unfold turnR at d;obtain⟨a,j⟩:=gX (((List.range l.length).map fun i=>layR way (ptN l (if 4<=way then l.length-1-i else i))));rw[j]at d;have f:a.length=l.length:=by rw[<-j];simp
 have b:∀q∈a,Bd 1000000 q.1/\Bd 1000000 q.2:=by
  rw[<-j];intro q d;obtain⟨i,c,rfl⟩:=List.mem_map.1 d;have c:=List.mem_range.1 c;refine zml (m _ (zaw ?_)) _
  split<;>omega
 have r:Bd 1000000 (leastP a).1/\Bd 1000000 (leastP a).2:=by
  rw[<-zgr (by intro e;rw[e]at f;simp at f;omega)]
  have:∀i,i<=a.length->Bd 1000000 (lwN a i).1/\Bd 1000000 (lwN a i).2:=by
   intro i
   induction i with
   | zero=>intro _;exact b _ (zaw oM)
   | succ i o =>
    intro c;have p:=o oM;have k:=b _ (zaw (l:=a) (i:=i) oM);have e:lwN a (i+1)=(min (lwN a i).1 (ptN a i).1,min (lwN a i).2 (ptN a i).2):=rfl;rw[e];unfold Bd at *;dsimp only;omega
  exact this _ (nE _)
 unfold settR at d;obtain⟨i,c,rfl⟩:=List.mem_map.1 d;have c:=List.mem_range.1 c;have k:=b _ (zaw (l:=a) (i:=(firN a a.length+i) % a.length) (Nat.mod_lt _ oM));unfold Bd at *;dsimp only;omega
def CorS(b:X)(a:LP)(f:Int×Int->Int×Int)(t4 t5:I)(W:X):Prop:=
 ∃i:Nat,t5=Y O i/\i<=a.length/\OwnC 27 2 W b.heap.size t4 (((a.take i).map f).map pc)/\Ext b W
theorem zdC(w:X)(v:I)(p:Pl)(h:IsPr w v p.shape)(ah:placedOk p=true) :
  Calls Tryz.prog 31 #[J (plc p v)] w (RetRow w (cornersP p)):=by
 rw[<-zmR];have j:=zbL ah;have hB:=j.bd;have Q:=zhv (way:=p.way) hB j.ne;have hT:=fun W (hW:Ext w W)=>zfo W p.name v p.shape p.depth p.density p.gx p.gz p.way (h.ext' hW) hB j.ne (by have:=j.le;omega) j.w0 j.w1 (by have:=j.gx;unfold Bd at *;omega) (by have:=j.gz;unfold Bd at *;omega)
 have ab:=j.ax;have ac:=j.az;have aj:(turnR p.way p.shape).length<=12:=by unfold turnR settR;simpa using j.le
 unfold cornR;obtain⟨nm,l,d,de,gx,gz,wy,L,P,sk⟩:=p;dsimp only at h ah j hB Q hT ab ac aj ⊢;obtain⟨gg,al⟩:=gX (layR wy (gx,gz));obtain⟨g,f⟩:=gX (turnR wy l);obtain⟨F,hF⟩:∃F:Int×Int->Int×Int,(fun q=>(q.1+L,q.2+P))=F:=⟨_,rfl⟩;rw[al,f]at hT;rw[f]at Q aj ⊢;rw[hF];obtain⟨a,c,rfl⟩:=h.form;obtain⟨n0,am⟩:=gX l.length;have HT:=hd9 hT;have HF:=hd9 hF;have au:=hd9 Q;unfold Bd at ab ac;obtain⟨aA,aB⟩:=ab;obtain⟨aC,aD⟩:=ac;unfold plc;dsimp only;rw[am]at HT ⊢;clear al f hF hT Q hB j ah h am;have aF:=zn1;go_enter Tryz.func31,Tryz.ntmps31
 go_wp2_with(go_at_call 33;(with_reducible refine(HT.out _ ?_).mono ?_);exact eA;rintro e w2 ⟨v2,rfl,ai,ap⟩;obtain⟨a2,n2,c2,rfl⟩:=ai.form3;obtain⟨⟨ae,av⟩,ay⟩:=cK1 w ap)
 have X2:Ext w w2:=eA;have f:=ai.pr;have an:=f.len;obtain⟨n,hn⟩:=gX g.length;rw[hn]at an aj;subst an;have aq:=hd9 f;have Hn:=hd9 hn;have b0:w2.cell? ⟨w.heap.size,7,Z⟩=N (Y O L):=by rw[ae _ _ sM];go_simp
 have b1:w2.cell? ⟨w.heap.size,8,Z⟩=N (Y O P):=by rw[ae _ _ sM];go_simp
 clear f hn ai ap ae av
 go_loopw [4,5] (CorS w2 g F) (fun _ t5 _=>n2-(intOf t5).toNat)
 case atStart=>exact⟨0,rfl,by omega,OwnC.nil _ _ _ _,eR _⟩
 case round =>
  obtain⟨i,rfl,hi,u,hx⟩:=hrel;rw[Hn.out]at hi;obtain⟨va,vn,vc,rfl⟩:=u.form3;have r:=hd9 u;have d0:=hx.cellS b0;have d1:=hx.cellS b1;clear u
  by_cases ag:i<n2
  ·obtain⟨b,o,rfl,aE,c0,c1⟩:=(aq.out.ext' hx).pt (i:=i) (by rw[Hn.out];exact ag)
   have bk:=au.out _ (zaw (l:=g) (i:=i) (by rw[Hn.out];exact ag))
   have D:(g.take (i+1)).map F=(g.take i).map F++[F (ptN g i)]:=by
    rw[zab g i (ptN g i) (by rw[zal (by rw[Hn.out];exact ag)];exact gE _),List.map_append];rfl
   have ak:F (ptN g i)=((ptN g i).1+L,(ptN g i).2+P):=by rw[<-HF.out]
   rw[ak]at D;obtain⟨⟨x,z⟩,hq⟩:∃q,ptN g i=q:=⟨_,rfl⟩;rw[hq]at c0 c1 bk D;unfold Bd at bk;dsimp only at c0 c1 bk D;obtain⟨⟨x0,x1⟩,⟨z0,z1⟩⟩:=bk;have ar:=hd9 D;have g0:(0:Int)<=(i:Int):=oM
   have g1:(i:Int)<(n2:Int):=oM
   have aH:IntKind.i64.wrap (x+L)=x+L:=iW _ oM;have aI:IntKind.i64.wrap (z+P)=z+P:=iW _ oM;clear hq D ak;go_wp2;refine zae (fun i=>decide (20<i)) (CellL [(⟨b,o+i*2,Z⟩,Y O x),(⟨b,o+i*2+1,Z⟩,Y O z),(⟨w.heap.size,7,Z⟩,Y O L),(⟨w.heap.size,8,Z⟩,Y O P)]) kM ?_ (fun s=>?_)
   ·exact cA
   refine sN 0 ?_
   iterate 20
    refine tun ?_
   refine oN ?_;refine cu1 (i:=20) fun K R=>?_
   go_simp;refine kO R (fun _=>cE s ((eR wr.drew).alloc _)) (fun s=>?_);clear R K
   replace s:=s rfl
   refine cu1 (i:=21) fun K R=>?_
   refine zed (T:=27) (t:=22) (z:=J #[Y O 0,Y O 0]) (k:=2) (bytes:=16) (v:=V va vn vc) (base:=w2.heap.size) zdF rfl dM dM Tryz.underlying22 rfl _ _ rfl rfl (r.out.ext ((eR wr).alloc (Obj.cells #[Value.int O (x+L),Value.int O (z+P)] 27)).drew) (ad:=⟨wr.heap.size,0,Z⟩) (m:=1) (c:=1) rfl [pc (x+L,z+P)] rfl (by simp[pc]) (by exact zdQ wr (x+L) (z+P)) (zdT _ _) (by rw[lL,lL,List.length_take];omega) (by have:=hx.size;simp only[wZ,qdZ];omega) ?_;intro v5 w5 y af aw;have ao:=r.out.lt;have aa:Below w2.heap.size wr w5:=((((eR wr).alloc (Obj.cells #[Value.int O (x+L),Value.int O (z+P)] 27)).drew).below hx.size).trans (zad af (by have:=hx.size;simp only[wZ,qdZ];omega) (fun k hk=>(ao k hk).1));have X5:Ext w2 w5:=hx.thenB aa (nE _);have aG:=aa.size;refine kO R (fun h=>nomatch h) (fun _=>?_);clear R K;obtain⟨a5,n5,c5,rfl⟩:=y.form3;refine cu1 (i:=22) fun K R=>?_
   go_simp;refine kO R (fun h=>nomatch h) (fun s=>?_);clear R K;refine doneHU kM ?_ _;go_wp2
   go_roundw
   case rel=>exact⟨i+1,by go_num,by rw[Hn.out];omega,by rw[ar.out,List.map_append];exact y,X5⟩
   case measure=>simp[intOf];omega
  ·obtain rfl:i=n2:=oM
   have e:(g.take i).map F=g.map F:=by rw[lT (by rw[Hn.out];omega)]
   go_wp2;go_ret;exact⟨_,rfl,by have:=r.out;rw[e]at this;exact this.mono X2.size,X2.trans hx⟩
end
section
open Go.RowKit
def hgN(l:LP):Nat->Int×Int
 | 0=>ptN l 0
 | i+1=>(max (hgN l i).1 (ptN l i).1,max (hgN l i).2 (ptN l i).2)
theorem zmj(l:LP):∀i j,j<i->(ptN l j).1<=(hgN l i).1
 | 0,j,h=>by omega
 | i+1,j,h=>by
  rw[hgN]
  by_cases e:j=i
  ·rw[e];exact Int.le_max_right _ _
  ·exact Int.le_trans (zmj l i j (by omega)) (Int.le_max_left _ _)
theorem zmi(l:LP)(h:l≠[]):∀i,i<=l.length->∃q∈l,q.1=(hgN l i).1
 | 0,_=>by
  have a:=List.length_pos_iff.2 h;refine⟨_,List.getElem_mem a,?_⟩;rw[hgN,zal a]
 | i+1,d=>by
  rw[hgN];obtain⟨q,c,e⟩:=zmi l h i oM
  rcases Int.le_total (hgN l i).1 (ptN l i).1 with b|b
  ·exact⟨ptN l i,by rw[zal oM];exact List.getElem_mem _,by dsimp only;omega⟩
  ·exact⟨q,c,by dsimp only;omega⟩
theorem zmh{k:Int}{l:LP}(h:l≠[])(a:∀q∈l,Bd k q.1/\Bd k q.2):∀i,i<=l.length->Bd k (hgN l i).1/\Bd k (hgN l i).2
 | 0,_=>by
  have b:=List.length_pos_iff.2 h;rw[hgN,zal b];exact a _ (List.getElem_mem b)
 | i+1,e=>by
  have d:=zmh h a i oM;have c:=a _ (List.getElem_mem (show i<l.length by omega));rw[<-zal (show i<l.length by omega)]at c;rw[hgN];unfold Bd at *;dsimp only;omega
theorem zll:∀{l:LP},l≠[]->(∀q∈l,(leastP l).1<=q.1)/\∃q∈l,q.1=(leastP l).1:=by
 intro l h
 have key:∀(d:LP)(o:Int×Int),(d.foldl (fun o q=>(min o.1 q.1,min o.2 q.2)) o).1<=o.1/\(∀q∈d,(d.foldl (fun o q=>(min o.1 q.1,min o.2 q.2)) o).1<=q.1) /\
   ((d.foldl (fun o q=>(min o.1 q.1,min o.2 q.2)) o).1=o.1\/∃q∈d,q.1=(d.foldl (fun o q=>(min o.1 q.1,min o.2 q.2)) o).1):=by
  intro d
  induction d with
  | nil=>intro o;exact⟨Int.le_refl _,fun q b=>by simp at b,.inl rfl⟩
  | cons a d i =>
   intro o;rw[List.foldl_cons];obtain⟨e,f,c⟩:=i (min o.1 a.1,min o.2 a.2);dsimp only at e c;refine⟨by omega,fun q b=>?_,?_⟩
   ·rcases List.mem_cons.1 b with rfl|b
    ·omega
    ·exact f q b
   ·rcases c with c|⟨q,b,c⟩
    ·rcases Int.le_total o.1 a.1 with g|g
     ·exact .inl oM
     ·exact .inr ⟨a,by simp,by omega⟩
    ·exact .inr ⟨q,mC _ b,c⟩
 cases l with
 | nil=>exact absurd rfl h
 | cons p j =>
  obtain⟨e,f,c⟩:=key j p;refine⟨fun q b=>?_,?_⟩
  ·rcases List.mem_cons.1 b with rfl|b
   ·exact e
   ·exact f q b
  ·rcases c with c|⟨q,b,c⟩
   ·exact⟨p,by simp,c.symm⟩
   ·exact⟨q,mC _ b,c⟩
theorem zkh{l:LP}(h:l≠[]):(∀q∈settledP l,0<=q.1)/\∃q∈settledP l,q.1=0:=by
 obtain⟨d,b,e,i⟩:=zll h
 have a:∀q,q∈l.drop (idxN l)++l.take (idxN l) ↔ q∈l:=fun q=>by
  rw[List.mem_append,or_comm,<-List.mem_append,List.take_append_drop]
 unfold settledP;refine⟨fun q g=>?_,?_⟩
 ·obtain⟨c,f,rfl⟩:=List.mem_map.1 g
  have:=d c ((a c).1 f);dsimp only;omega
 ·exact⟨_,List.mem_map.2 ⟨b,(a b).2 e,rfl⟩,by dsimp only;omega⟩
theorem zlR{way:Int}{l:LP}(h:l≠[]):(∀q∈turnedP way l,0<=q.1)/\∃q∈turnedP way l,q.1=0:=by
 unfold turnedP;refine zkh ?_
 split
 ·simpa using h
 ·simpa using h
theorem zlB{p:Pl}(h:placedOk p=true):lineL (lowP2 p)=p.ax/\lineR (lowP2 p)=p.ax+(hgN (turnR p.way p.shape) (turnR p.way p.shape).length).1/\turnR p.way p.shape≠[]:=by
 obtain⟨r1,m,d1⟩:=zbp h;obtain⟨_,_,_,ne,_⟩:=zba h;obtain⟨⟨L,s,el⟩,⟨P,v,er⟩,b⟩:=r1.ends ne;have z:=zaQ h;obtain⟨a,ha,f⟩:=z.minLow;obtain⟨c,o,g⟩:=z.maxLow;have r:=(zbL h).ne;rw[zkx];obtain⟨t1,t0,w,t3⟩:=zlR (way:=p.way) r;have n:turnedP p.way p.shape≠[]:=fun e=>by rw[e]at w;simp at w
 have W:=List.length_pos_iff.2 n;have k:cornersP p=(turnedP p.way p.shape).map fun q=>(q.1+p.ax,q.2+p.az):=rfl
 have l:∀t∈turnedP p.way p.shape,(t.1+p.ax,t.2+p.az)∈cornersP p:=fun t i=>by rw[k];exact List.mem_map.2 ⟨t,i,rfl⟩
 have d:∀q∈cornersP p,∃t∈turnedP p.way p.shape,q.1=t.1+p.ax:=fun q K=>by
  rw[k]at K;obtain⟨t,i,rfl⟩:=List.mem_map.1 K;exact⟨t,i,rfl⟩
 refine⟨?_,?_,n⟩
 ·have x:=f _ (l t0 w)
  dsimp only at x;have y:=(b a ((m a).2 ha)).1;obtain⟨t,i,Q⟩:=d L ((m L).1 s).mem;have R:=t1 t i;omega
 ·obtain⟨t,i,x⟩:=zmi _ n _ (nE (turnedP p.way p.shape).length)
  have y:=g _ (l t i);dsimp only at y;have Q:=(b c ((m c).2 o)).2;obtain⟨u,hu,R⟩:=d P ((m P).1 v).mem;obtain⟨j,D,rfl⟩:=List.getElem_of_mem hu;have T:=zmj (turnedP p.way p.shape) _ j D;rw[zal D]at T;omega
end
section
open Go.RowKit Go.Shelf Go.Sort
attribute [local go_sem] Oper.semAt_some
def ChA(w:X)(l:LP)(by':Int)(a b:I)(W:X):Prop:=
 ∃i f:Nat,b=Y O i/\a=Y O f/\staN l by' i=f/\i<=l.length/\Ext w W
theorem zoy{l:LP}{by':Int}(a:by'=1\/by' = -1){i:Nat}(h:i<=l.length)(b:0<l.length):staN l by' i<l.length:=by
 cases i with
 | zero=>unfold staN;omega
 | succ i=>have:=(zkn l a i).1;omega
def ChB(w:X)(cs:LP)(by':Int)(s:Nat)(L:LP)(a t9:I)(W:X):Prop:=
 ∃m i:Nat,m<L.length/\t9=Y O i/\ixN cs.length s by' (m+1)=i/\OwnC 27 2 W w.heap.size a ((L.take (m+1)).map pc)/\Ext w W
theorem zlx(w:X)(x z:Int):OwnC 27 2 (w.alloc (Obj.cells #[Value.int O (x),Value.int O (z)] 27)) w.heap.size (V (N ⟨w.heap.size,0,Z⟩) 1 1) [pc (x,z)]:=
 ⟨by simp[pc],by simp[pc],.inr ⟨w.heap.size,1,_,by simp,nE _,aN w _,by simp,by unfold maxLen;omega,by simp,by simp[pc]⟩⟩
theorem zer(w:X)(v:I)(l L:LP)(by':Int)(hb:by'=1\/by' = -1)(h:IsPr w v l)(hc:ChL l by' L)(hB:∀q∈l,Bd 3000000 q.1/\Bd 3000000 q.2)(hl:l.length<=1000)(hL:L.length<=1000) :
  Calls Tryz.prog 99 #[v,Y O by'] w (RetRow w L):=by
 obtain⟨a,c,rfl⟩:=h.form;obtain⟨n,hn⟩:=gX l.length;have ag:0<n:=by rw[<-hn];exact hc.pos
 have al:0<L.length:=List.length_pos_iff.2 hc.ne;rw[hn]at hl ⊢;have r:=hd9 hn;have H:=hd9 h;have HB:=hd9 hB;have Hc:=hd9 hc;have Hb:=hd9 hb;have b0 : -1<=by':=oM
 have b1:by'<=1:=oM
 clear hn h hB hc hb;go_enter Tryz.func99,Tryz.ntmps99;go_wp2
 go_loopw [6,7] (ChA w l by') (fun _ t7 _=>n-(intOf t7).toNat)
 case atStart=>exact⟨0,0,rfl,rfl,rfl,by omega,eR _⟩
 case round =>
  obtain⟨i,f,rfl,rfl,hf,hi,hx⟩:=hrel;rw[r.out]at hi;have aa:staN l by' i<n:=by rw[<-r.out];exact zoy Hb.out (by rw[r.out];exact hi) (by rw[r.out];exact ag)
  have y:staN l by' (i+1)=if betL by' (ptN l i) (ptN l f)then i else f:=by subst hf;rfl
  rw[hf]at aa;obtain⟨b,o,rfl,aG,d0,d1⟩:=(H.out.ext' hx).pt (i:=f) (by rw[r.out];exact aa)
  by_cases ar:i<n
  ·obtain⟨b2,o2,e2,aB,c0,c1⟩:=(H.out.ext' hx).pt (i:=i) (by rw[r.out];exact ar)
   cases e2
   have bi:=HB.out _ (zaw (l:=l) (i:=i) (by rw[r.out];exact ar));have bf:=HB.out _ (zaw (l:=l) (i:=f) (by rw[r.out];exact aa));obtain⟨⟨x,z⟩,hq⟩:∃q,ptN l i=q:=⟨_,rfl⟩;obtain⟨⟨p,fz⟩,hp⟩:∃q,ptN l f=q:=⟨_,rfl⟩;rw[hq]at c0 c1 bi;rw[hp]at d0 d1 bf;have y:staN l by' (i+1)=if betL by' (x,z) (p,fz)then i else f:=by rw[<-hq,<-hp];exact y
   have ac:staN l by' (i+1)=if x<p\/(x=p/\by'*(z-fz)<0)then i else f:=by rw[y];unfold betL;rfl
   unfold Bd at bi bf;dsimp only at c0 c1 d0 d1 bi bf;have g0:(0:Int)<=(i:Int):=oM
   have g1:(i:Int)<(n:Int):=oM
   have g2:(0:Int)<=(f:Int):=oM
   have g3:(f:Int)<(n:Int):=oM
   obtain⟨M,hM⟩:=gX (by'*(z-fz));have aF : -6000000<=M/\M<=6000000:=by rw[<-hM];rcases Hb.out with h|h<;>subst h<;>omega
   simp only[hM]at ac;have aJ:IntKind.i64.wrap (z-fz)=z-fz:=iW _ oM;have aK:IntKind.i64.wrap M=M:=iW _ oM;have ae:=hd9 ac;clear hf hq hp y ac
   by_cases h1:x<p
   ·have e:x<p\/(x=p/\M<0):=.inl h1
    have E:=hd9 e;have k1:decide (x<p)=true:=by simpa using h1
    clear e;go_wp2;refine wp_region_held_drew (S:=CellL [(⟨b,o+i*2,Z⟩,Y O x),(⟨b,o+i*2+1,Z⟩,Y O z),(⟨b,o+f*2,Z⟩,Y O p),(⟨b,o+f*2+1,Z⟩,Y O fz)]) kM cA (fun R=>?_);refine sN 0 ?_
    iterate 12
     refine tkn ?_
    iterate 27
     refine tkgn ?_
    refine tkn ?_;refine oN ?_;refine wpAnyH_done kM ?_ _;go_wp2
    go_roundw
    case rel=>exact⟨i+1,_,by go_num,rfl,by rw[ae.out,if_pos E.out],by rw[r.out];omega,eA⟩
    case measure=>simp[intOf];omega
   ·have k1:decide (x<p)=false:=by simpa using h1
    by_cases h2:x=p
    ·have h3:(x==p)=true:=by simpa using h2
     by_cases h4:M<0
     ·have k2:decide (M<0)=true:=by simpa using h4
      have e:x<p\/(x=p/\M<0):=.inr ⟨h2,h4⟩;have E:=hd9 e;clear h2 e;go_wp2;refine wp_region_held_drew (S:=CellL [(⟨b,o+i*2,Z⟩,Y O x),(⟨b,o+i*2+1,Z⟩,Y O z),(⟨b,o+f*2,Z⟩,Y O p),(⟨b,o+f*2+1,Z⟩,Y O fz)]) kM cA (fun R=>?_);refine sN 0 ?_
      iterate 40
       refine tkn ?_
      refine oN ?_;refine wpAnyH_done kM ?_ _;go_wp2
      go_roundw
      case rel=>exact⟨i+1,_,by go_num,rfl,by rw[ae.out,if_pos E.out],by rw[r.out];omega,eA⟩
      case measure=>simp[intOf];omega
     ·have k2:decide (M<0)=false:=by simpa using h4
      have e:¬(x<p\/(x=p/\M<0)):=oM
      have E:=hd9 e;clear h2 e;go_wp2;refine wp_region_held_drew (S:=CellL [(⟨b,o+i*2,Z⟩,Y O x),(⟨b,o+i*2+1,Z⟩,Y O z),(⟨b,o+f*2,Z⟩,Y O p),(⟨b,o+f*2+1,Z⟩,Y O fz)]) kM cA (fun R=>?_);refine sN 0 ?_
      iterate 40
       refine tkn ?_
      refine oN ?_;refine wpAnyH_done kM ?_ _;go_wp2
      go_roundw
      case rel=>exact⟨i+1,_,by go_num,rfl,by rw[ae.out,if_neg E.out],by rw[r.out];omega,eA⟩
      case measure=>simp[intOf];omega
    ·have h3:(x==p)=false:=by simpa using h2
     have e:¬(x<p\/(x=p/\M<0)):=oM
     have E:=hd9 e;clear h2 e;go_wp2;refine wp_region_held_drew (S:=CellL [(⟨b,o+i*2,Z⟩,Y O x),(⟨b,o+i*2+1,Z⟩,Y O z),(⟨b,o+f*2,Z⟩,Y O p),(⟨b,o+f*2+1,Z⟩,Y O fz)]) kM cA (fun R=>?_);refine sN 0 ?_
     iterate 24
      refine tkn ?_
     iterate 14
      refine tkgn ?_
     iterate 2
      refine tkn ?_
     refine oN ?_;refine wpAnyH_done kM ?_ _;go_wp2
     go_roundw
     case rel=>exact⟨i+1,_,by go_num,rfl,by rw[ae.out,if_neg E.out],by rw[r.out];omega,eA⟩
     case measure=>simp[intOf];omega
  ·obtain rfl:i=n:=oM
   obtain⟨⟨sx,sz⟩,hp⟩:∃q,ptN l f=q:=⟨_,rfl⟩;rw[hp]at d0 d1;dsimp only at d0 d1;have hs:staN l by' l.length=f:=by rw[r.out];exact hf
   have W:=Hc.out.at' 0 al;rw[hs,r.out,zgn aa,hp]at W;have g2:(0:Int)<=(f:Int):=oM
   have g3:(f:Int)<(i:Int):=oM
   have g4:¬(i:Int)<(i:Int):=oM
   have D:=zgm (n:=i) (s:=f) (k:=0) (by':=by') ag;rw[zgn aa]at D
   have ah:Int.tmod ((f:Int)+by'+(i:Int)) (i:Int)=((ixN i f by' 1:Nat):Int):=by
    rw[Int.tmod_eq_emod_of_nonneg oM];exact D
   have aI:¬(i:Int)=0:=oM
   have aE:¬i=0:=oM
   obtain⟨j1,an⟩:=gX (ixN i f by' 1);rw[an]at ah;have az:=hd9 an;have ay:=hd9 W;have Hs:=hd9 hs;have ax:=hx.size;clear hp hf W D an hs;go_wp2
   go_loopw [8,9] (ChB w l by' f L) (fun t8 _ _=>L.length-(match t8 with | V _ n _=>n|_=>0))
   case atStart =>
    refine⟨0,j1,al,rfl,by rw[r.out];exact az.out,?_,eA⟩
    have e:(L.take (0+1)).map pc=[pc (sx,sz)]:=by
     rw[zab L 0 (ptN L 0) (by rw[zal al];exact gE _),ay.out];rfl
    rw[e];exact(zlx wr sx sz).mono ax
   case round =>
    clear d0 d1 hx g2 g3 ah ax;obtain⟨m,j,hm,rfl,hj,d,hx⟩:=hrel;rw[r.out]at hj;have aC:j<i:=by rw[<-hj];exact zh0 ag
    obtain⟨b2,o2,e2,aB,c0,c1⟩:=(H.out.ext' hx).pt (i:=j) (by rw[r.out];exact aC)
    cases e2
    obtain⟨va,vc,aw⟩:=d.form;rw[lL,List.length_take,Nat.min_eq_left oM]at aw;subst aw;obtain⟨g,rfl,hg,aH⟩:=d.blk (by rw[lL,List.length_take];omega)
    have K:((L.take (m+1)).map pc)[m]?=N (pc (ptN L m)):=by
     rw[lP,List.getElem?_take,if_pos oM,zal hm,gE hm];rfl
    have l0:=d.cell (j:=0) K rfl;have Q:m+1<L.length->(ptN L m).1<(ptN L (m+1)).1/\ptN L (m+1)=ptN l j:=fun h9=>⟨Hc.out.up m h9,by rw[Hc.out.at' _ h9,Hs.out,r.out,hj]⟩
    have P:¬m+1<L.length->(ptN l j).1<=(ptN L m).1:=fun h9=>by
     have:=Hc.out.stop;rw[Hs.out,r.out,show L.length=m+1 by omega,hj]at this;exact this
    obtain⟨⟨qx,qz⟩,hq⟩:∃q,ptN l j=q:=⟨_,rfl⟩;obtain⟨⟨lx,lz⟩,ao⟩:∃q,ptN L m=q:=⟨_,rfl⟩;rw[hq]at c0 c1 Q P;rw[ao]at l0 Q P;dsimp only at c0 c1 l0 Q P;simp only[Nat.add_zero]at l0;have ai:=hd9 d;have D:=zgm (n:=i) (s:=f) (k:=m+1) (by':=by') ag;rw[hj]at D
    have ah:Int.tmod ((j:Int)+by'+(i:Int)) (i:Int)=((ixN i f by' (m+1+1):Nat):Int):=by
     rw[Int.tmod_eq_emod_of_nonneg oM];exact D
    obtain⟨j2,af⟩:=gX (ixN i f by' (m+1+1));rw[af]at ah;have aA:=hd9 af;have k0:(0:Int)<=(j:Int):=oM
    have k1:(j:Int)<(i:Int):=oM
    have k2:(0:Int)<=(m:Int):=oM
    have k3:(m:Int)<(m:Int)+1:=oM
    have k4:(m:Int)+1-1=(m:Int):=oM
    by_cases u:m+1<L.length
    ·obtain⟨h1,h2⟩:=Q u
     rw[h2]at h1;dsimp only at h1;have e1:decide (lx<qx)=true:=by simpa using h1
     have H2:=hd9 h2;have ak:=hd9 hx.size;have kw:IntKind.i64.wrap (m:Int)=(m:Int):=iW _ oM;clear Q P hq ao d K hj D af h2;go_wp2;refine wp_region_held_drew (S:=CellL [(⟨b,o+j*2,Z⟩,Y O qx),(⟨g,m*2,Z⟩,Y O lx)]) kM cA (fun R=>?_);refine sN 0 ?_
     iterate 13
      refine tkn ?_
     refine oN ?_;refine wpAnyH_done kM ?_ _;clear kw
     go_wp2_with(at_builtin;refine appC (T:=27) (t:=88) (z:=J #[Y O 0,Y O 0]) (k:=2) (bytes:=16) (base:=w.heap.size) (v:=V (N ⟨g,0,Z⟩) (m+1) vc) (m:=1) (c:=1) (ad:=⟨wr.heap.size,0,Z⟩) zdF rfl dM dM Tryz.underlying88 rfl _ _ rfl rfl (ai.out.ext ((eR wr).alloc (Obj.cells #[Value.int O (qx),Value.int O (qz)] 27)).drew) rfl [pc (qx,qz)] rfl (by simp[pc]) (by exact zdQ wr qx qz) (zdT qx qz) (by rw[lL,List.length_take];omega) (by have:=ak.out;simp only[wZ,qdZ];omega) ?_;intro v' w5 ab am aD)
     obtain⟨a5,c5,av⟩:=ab.form;rw[lA,lL,List.length_take,Nat.min_eq_left oM,List.length_singleton]at av;subst av
     go_roundw
     case rel =>
      have au:=ai.out.lt;have aq:Below w.heap.size wr w5:=((((eR wr).alloc (Obj.cells #[Value.int O (qx),Value.int O (qz)] 27)).drew).below ak.out).trans (zad am (by have:=ak.out;simp only[wZ,qdZ];omega) (fun k hk=>(au k hk).1));refine⟨m+1,j2,u,rfl,by rw[r.out];exact aA.out,?_,hx.thenB aq (nE _)⟩;rw[zab L (m+1) (ptN L (m+1)) (by rw[zal u];exact gE _),List.map_append,H2.out];exact ab
     case measure=>simp;omega
    ·have h1:=P u
     have e1:decide (lx<qx)=false:=by simp;omega
     have eL:L.length=m+1:=oM
     have aj:OwnC 27 2 wr w.heap.size (V (N ⟨g,0,Z⟩) (m+1) vc) (L.map pc):=by
      have:=d;rw[lT oM]at this;exact this
     have ap:=hd9 aj;have kw:IntKind.i64.wrap (m:Int)=(m:Int):=iW _ oM;clear Q P hq ao d K hj D af aj eL h1;go_wp2;refine wp_region_held_drew (S:=CellL [(⟨b,o+j*2,Z⟩,Y O qx),(⟨g,m*2,Z⟩,Y O lx)]) kM cA (fun R=>?_);refine sN 0 ?_
     iterate 13
      refine tkn ?_
     refine oN ?_;refine wpAnyH_done kM ?_ _;go_wp2;go_ret;exact⟨_,rfl,ap.out.ext (eR wr).drew,hx.drew⟩
end
section
open Go.RowKit Go.Shelf
attribute [local go_sem] Oper.semAt_some
def NoS(w:X)(n:Nat)(t3:I)(W:X):Prop:=∃i:Nat,t3=Y O i/\i<=n/\Ext w W
theorem zdL(w:X)(v:I)(f:List Rat)(h:IsRs w v f)(p:∀q∈f,q=0) :
  Calls Tryz.prog 29 #[v] w fun e D=>e = .returned (.bool true)/\Ext w D:=by
 obtain⟨a,c,rfl⟩:=Sl.form h;obtain⟨n,j⟩:=gX f.length;have d:=Sl.le h;unfold maxLen at d;rw[j]at d ⊢;have m:=hd9 j;have H:=hd9 h;have t:=hd9 p;clear j h p;go_enter Tryz.func29,Tryz.ntmps29;go_wp2
 go_loopw [3] (NoS w n) (fun z _=>n-(intOf z).toNat)
 case atStart=>exact⟨0,rfl,by omega,eR _⟩
 case round =>
  obtain⟨i,rfl,hi,s⟩:=hrel
  by_cases g:i<n
  ·obtain⟨q,k⟩:∃q,f[i]?=N q:=⟨f[i]'(by rw[m.out];omega),by simp[m.out,g]⟩
   obtain rfl:q=0:=t.out q (lM k);obtain⟨b,o,K,m1,Q,s1,L,m2,R,rfl,hb,r,P,x,y⟩:=(IsRs.ext' H.out s).at' k;have T:(0:Int)<=(i:Int):=oM
   have W:(i:Int)<(n:Int):=oM
   have u:=hd9 r;clear k r
   go_wp2_with(go_at_call 93;(with_reducible refine(zbz _ _ _ u.out).mono ?_);rintro e w1 ⟨rfl,l⟩)
   go_roundw
   case rel=>exact⟨i+1,by go_num,by omega,s.trans l⟩
   case measure=>simp[intOf];omega
  ·obtain rfl:i=n:=oM
   go_wp2;go_ret;exact⟨rfl,eA⟩
theorem zlK(w:X)(u v:I)(l:LP)(g:IsPts w u l)(d:IsPr w v l) :
  Calls Tryz.prog 30 #[u,v] w fun e w'=>e = .returned (.bool true)/\Ext w w':=by
 obtain⟨a,c,rfl⟩:=g.form;obtain⟨a',c',rfl⟩:=d.form;obtain⟨n,k⟩:=gX l.length;have f:=d.le;unfold maxLen at f;rw[k]at f ⊢;have r:=hd9 k;have y:=hd9 g;have D:=hd9 d;clear k g d;go_enter Tryz.func30,Tryz.ntmps30;go_wp2
 go_loopw [5] (NoS w n) (fun W _=>n-(intOf W).toNat)
 case atStart=>exact⟨0,rfl,by omega,eR _⟩
 case round =>
  obtain⟨i,rfl,hi,p⟩:=hrel
  by_cases j:i<n
  ·obtain⟨⟨x,z⟩,m⟩:∃q,l[i]?=N q:=⟨l[i]'(by rw[r.out];omega),by simp[r.out,j]⟩
   obtain⟨b,o,rfl,d,K,L⟩:=(y.out.ext' p).at' m;obtain⟨s,t,rfl,T,P,Q⟩:=(D.out.ext' p).at' m;have g0:(0:Int)<=(i:Int):=oM
   have g1:(i:Int)<(n:Int):=oM
   dsimp only at K L P Q;clear m;go_wp2;refine wp_region_held_drew (S:=CellL [(⟨b,o+i*2,Z⟩,Y O x),(⟨b,o+i*2+1,Z⟩,Y O z),(⟨s,t+i*2,Z⟩,Y O x),(⟨s,t+i*2+1,Z⟩,Y O z)]) kM cA (fun R=>?_);refine tk1 (i:=0) ?_;refine tk1 (i:=1) ?_;refine tk1 (i:=2) ?_;refine tk1 (i:=3) ?_;refine tk1 (i:=4) ?_;refine tk1 (i:=5) ?_;refine tk1 (i:=6) ?_;refine tk1 (i:=7) ?_;refine tk1 (i:=8) ?_;refine tk1 (i:=9) ?_;refine tk1 (i:=10) ?_;refine tk1 (i:=11) ?_;refine tk1 (i:=12) ?_;refine tk1 (i:=13) ?_;refine tk1 (i:=14) ?_;refine tk1 (i:=15) ?_;refine tk1 (i:=16) ?_;refine tk1 (i:=17) ?_;refine tk1 (i:=18) ?_;refine tk1 (i:=19) ?_;refine tk1 (i:=20) ?_;refine tk1 (i:=21) ?_;refine tk1 (i:=22) ?_;refine tk1 (i:=23) ?_;refine wpAnyH_done kM ?_ _;go_wp2
   go_roundw
   case rel=>exact⟨i+1,by go_num,by omega,p.drew⟩
   case measure=>simp[intOf];omega
  ·obtain rfl:i=n:=oM
   go_wp2;go_ret;exact⟨rfl,eA⟩
def HgS(w:X)(l:LP)(t4:I)(W:X):Prop:=
 ∃i:Nat,t4=Y O i/\i<=l.length/\Ext w W/\W.heap[w.heap.size]?=N (.cells #[Y O 0,Y O 0] 27 (0,0))/\W.heap[w.heap.size+1]?=N (.cells #[Y O (hgN l i).1,Y O (hgN l i).2] 27 (0,0))
theorem zi6(w:X)(v:I)(l:LP)(h:IsPr w v l)(D:l≠[]) :
  Calls Tryz.prog 32 #[v] w fun e w'=>e = .returned (J #[Y O (hgN l l.length).1,Y O (hgN l l.length).2])/\Ext w w':=by
 obtain⟨a,c,rfl⟩:=h.form;obtain⟨n,L⟩:=gX l.length;have af:0<n:=by rw[<-L];exact List.length_pos_iff.2 D
 have z:=h.le;unfold maxLen at z;rw[L]at z ⊢;obtain⟨b,o,rfl,hb,r,s⟩:=h.pt (i:=0) oM;obtain⟨p,hp⟩:=gX (ptN l 0);rw[hp]at r s;simp only[Nat.zero_mul,Nat.add_zero,Nat.zero_add]at r s;have Hp:=hd9 hp;have Q:=hd9 L;have H:=hd9 h;clear hp L h D;go_enter Tryz.func32,Tryz.ntmps32;go_wp2
 go_loopw [4] (HgS w l) (fun t4 _=>n-(intOf t4).toNat)
 case atStart =>
  refine⟨0,rfl,by omega,eA,?_,?_⟩
  ·rw[Below.heap_alloc _ _ _ sM];exact aN _ _
  ·rw[show hgN l 0=p from Hp.out];exact qhA _ _ _ sM
 case round =>
  clear r s;obtain⟨i,rfl,hi,hx,y,d⟩:=hrel;rw[Q.out]at hi;obtain⟨m,hm⟩:=gX (hgN l i);rw[hm]at d;have Hm:=hd9 hm;have m0:=qcB d (i:=0) (u:=Y O m.1) rfl;have m1:=qcB d (i:=1) (u:=Y O m.2) rfl;have ag:=qfB d 0;have ah:=qfB d 1;have mz:=zaa d;have f:=hd9 y;have P:=hd9 d;clear hm y d
  by_cases ab:i<n
  ·obtain⟨b2,o2,e2,ad,r,s⟩:=(H.out.ext' hx).pt (i:=i) (by rw[Q.out];exact ab)
   cases e2
   have ae:b<w.heap.size:=hb;obtain⟨q,t⟩:=gX (ptN l i);rw[t]at r s;have Hq:=hd9 t;have g0:(0:Int)<=(i:Int):=oM
   have g1:(i:Int)<(n:Int):=oM
   have g:hgN l (i+1)=(max m.1 q.1,max m.2 q.2):=by rw[hgN,Hm.out,Hq.out]
   have R:=hd9 g;obtain⟨mx,k⟩:=m;obtain⟨qx,qz⟩:=q;dsimp only at m0 m1 r s;have ai:¬b=w.heap.size+1:=oM
   clear t g;go_wp2;refine zdc (CellL [(⟨b,o+i*2,Z⟩,Y O qx),(⟨b,o+i*2+1,Z⟩,Y O qz)]) (CellL [(⟨w.heap.size+1,0,Z⟩,Y O mx),(⟨w.heap.size+1,1,Z⟩,Y O k)]) 17 kM cA cA (fun T hB=>?_);refine tv1 (i:=0) false ?_;refine tv1 (i:=1) true ?_;refine tv1 (i:=2) false ?_;refine tv1 (i:=3) false ?_;refine tv1 (i:=4) false ?_;refine tv1 (i:=5) false ?_;refine tv1 (i:=6) false ?_;refine tv1 (i:=7) false ?_;refine tv1 (i:=8) false ?_;refine tv1 (i:=9) true ?_;refine tv1 (i:=10) false ?_;refine tv1 (i:=11) false ?_;refine tv1 (i:=12) false ?_;refine tv1 (i:=13) false ?_;refine tv1 (i:=14) false ?_;refine tv1 (i:=15) false ?_;refine tv1 (i:=16) false ?_
   have j:∀q∈[((⟨b,o+i*2,Z⟩:Addr),Value.int O qx),(⟨b,o+i*2+1,Z⟩,Y O qz)],w.heap.size+1≠q.1.block:=by
    intro q t;simp at t
    rcases t with rfl|rfl<;>(dsimp only;omega)
   refine cv1 (i:=17) fun K x=>?_
   go_simp;refine kO x ⟨CellL.set (p:=⟨w.heap.size+1,0,Z⟩) T j _,fun h=>nomatch h⟩ (fun aa=>?_);clear x K
   replace T:=aa.1
   refine tv1 (i:=18) false ?_;refine cv1 (i:=19) fun K x=>?_
   go_simp;refine kO x ⟨CellL.set (p:=⟨w.heap.size+1,1,Z⟩) T j _,fun h=>nomatch h⟩ (fun ac=>?_);clear x K;refine doneHV kM ?_ _;go_wp2
   go_roundw
   case rel =>
    refine⟨i+1,by go_num,by rw[Q.out];omega,?_,?_,?_⟩
    ·exact((hx.drew.set (p:=⟨w.heap.size+1,0,Z⟩) dO _).set (p:=⟨w.heap.size+1,1,Z⟩) dO _)
    ·exact zaL (W:=wr) f.out oM _ _
    ·rw[R.out];exact zaj (W:=wr.drew) P.out _ _
   case measure=>simp[intOf];omega
  ·obtain rfl:i=n:=oM
   have t0:=qcB f.out (i:=0) (u:=Y O 0) rfl;have t1:=qcB f.out (i:=1) (u:=Y O 0) rfl;have aj:=qfB f.out 0;have tf1:=qfB f.out 1;have tz:=zaa f.out;obtain⟨mx,k⟩:=m;dsimp only at m0 m1;go_wp2;exact bR (v:=J #[Y O mx,Y O k]) (by simp[results,Tryz.results32,go_sem,t0,t1,tz]) rfl ⟨zbh (by rw[Hm.out]),eA⟩
end
end Go.Proofs.YtjnjpagegkcgfaaGreatDoor.Cop
