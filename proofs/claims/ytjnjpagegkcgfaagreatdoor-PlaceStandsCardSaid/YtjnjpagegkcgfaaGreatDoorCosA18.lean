/- Part 19. -/
import Derived.Test.YtjnjpagegkcgfaaGreatDoorCosA17
import Derived.Test.YtjnjpagegkcgfaaGreatDoorCosA07
import Derived.Test.YtjnjpagegkcgfaaGreatDoorCosA04
import Derived.Test.YtjnjpagegkcgfaaGreatDoorCosA06
import Derived.Test.YtjnjpagegkcgfaaGreatDoorCosA01
import Derived.Laws.IdiomStrings
set_option maxRecDepth 1000000
set_option maxHeartbeats 16000000
set_option linter.unusedSimpArgs false
set_option linter.unusedVariables false
open Go.Value renaming slice->O,int->X,bool->F,agg->G
open Option renaming none->Y,some->J
open Go renaming World->Z,Value->I,Addr->H
open Go.Obj renaming cells->M
open Go.IntKind renaming i64->C
namespace Go.Proofs.YtjnjpagegkcgfaaGreatDoor.Cop
section
open Go.RowKit Go.Shelf
attribute [local go_sem] Oper.semAt_some
def MuO(W0:Z)(m c:Nat)(xs e:List Int)(d:I)(wr:Z):Prop:=
 ∃(i:Nat)(a:List Int),d=X C i/\i<=m/\a.length=m+c/\Own 3 wr W0.heap.size (O (J ⟨W0.heap.size,0,Y⟩) (m+c) (m+c)) a/\dv C4 a=dv C4 (xs.take i)*dv C4 e/\MulB a i 0/\Ext W0 wr
def MuI(W0:Z)(m a i:Nat)(x V:Int)(e:List Int)(d:I)(wr:Z):Prop:=
 ∃(k:Nat)(c:List Int),d=X C k/\k<=a/\c.length=m+a/\Own 3 wr W0.heap.size (O (J ⟨W0.heap.size,0,Y⟩) (m+a) (m+a)) c/\dv C4 c=V+C4 ^ i*(x*dv C4 (e.take k))/\MulB c i k/\Ext W0 wr
theorem zbD(w:Z)(va vb:I)(na nb:Int)(ha:IsN w va na)(hb:IsN w vb nb)(aK:Lm limG na)(aL:Lm limG nb) :
  Calls Tryz.prog 80 #[va,vb] w (RetN w (na*nb)):=by
 obtain⟨s,a,m,c,rfl,hs⟩:=ha.form2;obtain⟨s',a',t,c',rfl,ah⟩:=hb.form2;obtain⟨xs,hl,hi,hc,hv⟩:=ha.open;obtain⟨ys,ag,aJ,am,ai⟩:=hb.open;have hm:=zbg aK hc hv;have ao:=zbg aL am ai;rw[hl]at hm;rw[ag]at ao;unfold limG at hm ao;obtain⟨σ,hσ⟩:=gX (s*s');have aA:=sg3 na nb;rw[<-hs,<-ah,hσ]at aA;have σ0 : -1<=σ:=oM
 have σ1:σ<=1:=oM
 have aB:σ=(na*nb).sign:=by rw[<-hσ,hs,ah,zlG]
 have af:=hd9 aB;have Hl:=hd9 hl;have P:=hd9 ag;have Hv:=hd9 hv;have ak:=hd9 ai;clear hs ah hl ag hv ai aB aA;obtain⟨W0,f⟩:=gX (((w.alloc (M #[X C s,O a m c] 66)).alloc (M #[X C s',O a' t c'] 66)).alloc (M #[X C 0,O Y 0 0] 66));have z0:w.heap.size+1+1+1=W0.heap.size:=by rw[<-f];simp
 have z1:w.heap.size<W0.heap.size:=oM
 have z2:w.heap.size+1<W0.heap.size:=oM
 have z3:w.heap.size+1+1<W0.heap.size:=oM
 have p0:W0.cell? ⟨w.heap.size,0,Y⟩=J (X C s):=by rw[<-f];clear f;go_simp
 have p1:W0.cell? ⟨w.heap.size,1,Y⟩=J (O a m c):=by rw[<-f];clear f;go_simp
 have q0:W0.cell? ⟨w.heap.size+1,0,Y⟩=J (X C s'):=by rw[<-f];clear f;go_simp
 have q1:W0.cell? ⟨w.heap.size+1,1,Y⟩=J (O a' t c'):=by rw[<-f];clear f;go_simp
 have j:Hid (W0.heap[w.heap.size+1+1]?=J (M #[X C 0,O Y 0 0] 66 (0,0))):=by rw[<-f];exact hd9 (qhA _ _ _ sM)
 have ac:Hid (Ext w W0):=by rw[<-f];exact hd9 eA
 go_enter Tryz.func80,Tryz.ntmps80
 go_wp2_with(at_make;refine mk0 (n:=m+t) za0 Tryz.underlying64 rfl _ _ rfl _ rfl rfl sM oM ?_;(try rw[f]);intro w1 q L aM;(try simp only[z0]at q))
 try simp only[z0]
 have r:Own 3 w1 W0.heap.size (O (J ⟨W0.heap.size,0,Y⟩) (m+t) (m+t)) (List.replicate (m+t) 0):=q;clear f q z0
 go_loopw [6] (MuO W0 m t xs ys) (fun t6 _=>m-(intOf t6).toNat)
 case atStart =>
  exact⟨0,_,rfl,by omega,by simp,r,by rw[zax];simp,MulB.start _,L⟩
 case round =>
  clear r L aM;obtain⟨i,os,rfl,aY,ar,g,D,l,d⟩:=hrel;have aj:=hd9 ar;have ad:=hd9 D;have e0:=d.cellS p0;have e1:=d.cellS p1;have e2:=d.cellS q0;have e3:=d.cellS q1;clear ar D
  by_cases a0:i<m
  ·obtain⟨b,o,rfl,aS,L⟩:=(hi.ext ac.out).open (by rw[Hl.out];omega)
   obtain⟨x,Q⟩:∃x,xs[i]?=J x:=⟨_,gE (by rw[Hl.out];omega)⟩;have aF:=L i x Q;have ax:=hc.1 x (lM Q);have aD:=hd9 Q;have aC:=hd9 ax;have g0:(0:Int)<=(i:Int):=oM
   have g1:(i:Int)<(m:Int):=oM
   clear L Q ax;go_wp2;obtain⟨wo,rfl⟩:∃wo:Z,wo=wr:=⟨_,rfl⟩
   go_loopw [7] (MuI W0 m t i x (dv C4 os) ys) (fun t7 _=>t-(intOf t7).toNat)
   case atStart=>exact⟨0,os,rfl,by omega,aj.out,g,by simp,l,d⟩
   case round =>
    clear g l d e0 e1 e2 e3;obtain⟨k,us,rfl,aZ,av,g,D,l,d⟩:=hrel;have ae:=hd9 av;have aa:=hd9 D;have e0:=d.cellS p0;have e1:=d.cellS p1;have e2:=d.cellS q0;have e3:=d.cellS q1;have aT:=d.cellS aF;clear av D
    by_cases an:k<t
    ·obtain⟨b',o',rfl,aO,ab⟩:=(aJ.ext ac.out).open (by rw[P.out];omega)
     obtain⟨y,R⟩:∃y,ys[k]?=J y:=⟨ys[k]'(by rw[P.out];omega),by simp[P.out,an]⟩;obtain⟨z,T⟩:∃z,us[i+k]?=J z:=⟨_,gE (by rw[ae.out];omega)⟩;have aU:=d.cellS (ab k y R);have aV:=g.cell T;have aX:=g.frozen (i+k);have ay:=am.1 y (lM R);obtain⟨aP,aQ,az⟩:=l _ z T;have aR:=az (nE _);obtain⟨ap,aq⟩:=mul4 aC.out ay;obtain⟨u,hu⟩:=gX (x*y);rw[hu]at ap aq;have aE:=hd9 R;have al:=hd9 T;have k0:(0:Int)<=(k:Int):=oM
     have k1:(k:Int)<(t:Int):=oM
     have k2:(0:Int)<=(i:Int)+(k:Int):=oM
     have k3:(i:Int)+(k:Int)<(m:Int)+(t:Int):=oM
     have k4:IntKind.i64.wrap ((i:Int)+(k:Int))=(i:Int)+(k:Int):=iW _ oM;have k5:((i:Int)+(k:Int)).toNat=i+k:=oM
     clear ab R T ay;go_wp2;refine zae (fun i=>decide (22<i)) (CellL [(⟨W0.heap.size,i+k,Y⟩,X C z),(⟨w.heap.size,1,Y⟩,O (J ⟨b,o,Y⟩) m c),(⟨b,o+i,Y⟩,X C x),(⟨w.heap.size+1,1,Y⟩,O (J ⟨b',o',Y⟩) t c'),(⟨b',o'+k,Y⟩,X C y)]) kM ?_ (fun aG=>?_)
     ·exact cA
     refine sN 0 ?_
     iterate 23
      refine tun ?_
     refine oN ?_;refine cu1 (i:=23) fun K hK=>?_
     go_simp;refine kO hK (fun h=>nomatch h) (fun aG=>?_);clear hK K;refine doneHU kM ?_ _;go_wp2
     go_roundw
     case rel =>
      exact⟨k+1,us.set (i+k) (z+u),by go_num,by omega,by simp[ae.out],(g.stored _ _).drew,by rw[<-hu];exact zi9 al.out aE.out aa.out,l.step al.out ap aq,(d.set (p:=⟨W0.heap.size,i+k,Y⟩) (nE _) _).drew⟩
     case measure=>simp[intOf];omega
    ·obtain rfl:k=t:=oM
     go_wp2
     go_roundw
     case rel=>exact⟨i+1,us,by go_num,by omega,ae.out,g,zlf P.out aD.out aa.out ad.out,l.next,d⟩
     case measure=>simp[intOf];omega
  ·obtain rfl:i=m:=oM
   have hD:dv C4 os=(na.natAbs:Int)*(nb.natAbs:Int):=by
    rw[ad.out,lT (by rw[Hl.out];omega),Hv.out,ak.out]
   have aH:0<=dv C4 os:=by rw[hD];exact Int.mul_nonneg oM oM
   have hN:na*nb=σ*dv C4 os:=by
    rw[hD,af.out,<-Int.natCast_mul,<-Int.natAbs_mul];exact(Int.sign_mul_natAbs _).symm
   have HN:=hd9 hN;have r0:=qcB (d.heapS j.out) (i:=0) (u:=X C 0) rfl;have r1:=qcB (d.heapS j.out) (i:=1) (u:=O Y 0 0) rfl;have a1:=qfB (d.heapS j.out) 0;have a2:=qfB (d.heapS j.out) 1;have zr:=zaa (d.heapS j.out);have XW:Ext w wr:=ac.out.trans d;clear hD hN
   go_wp2_with(go_at_call 152;(with_reducible refine(zbO _ σ _ os (na*nb) g.ints (by rw[aj.out];omega) (l.big oM) aH HN.out (fun h9=>?_)).mono ?_);(rw[af.out];refine zho (fun h8=>h9 ?_);have h7:=HN.out;rw[h8]at h7;rcases Int.mul_eq_zero.1 h7.symm with h6|h6;(rw[af.out,h8]at h6;exact absurd h8 (fun _=>h9 (by have h5:=ad.out;rw[lT (by rw[Hl.out];omega),Hv.out,ak.out,<-Int.natCast_mul,<-Int.natAbs_mul,h8]at h5;simpa using h5)));exact h6);rintro e w3 ⟨r3,rfl,au,aw⟩;obtain⟨s3,a3,m3,c3,rfl,-⟩:=au.form2;obtain⟨aI,aW⟩:=aw.cells)
   exact bR (v:=G #[X C s3,O a3 m3 c3]) (by simp[results,Tryz.results80,go_sem,aI,zr,r0,r1]) rfl ⟨_,rfl,au.keep (zcl (aw.heapS (d.heapS j.out)) _ _),eA⟩
theorem znE{os xs:List Int}{i:Nat}{k x:Int}(c:os[i]?=J 0)(a:xs[i]?=J x)(h:dv C4 os=k*dv C4 (xs.take i)):dv C4 (os.set i (x*k))=k*dv C4 (xs.take (i+1)):=by
 rw[zcY _ c,zan C4 xs i x a,h];grind
def TmS(W0:Z)(m:Nat)(k:Int)(xs:List Int)(c:I)(wr:Z):Prop:=
 ∃(i:Nat)(a:List Int),c=X C i/\i<=m/\a.length=m/\Own 3 wr W0.heap.size (O (J ⟨W0.heap.size,0,Y⟩) m m) a/\dv C4 a=k*dv C4 (xs.take i)/\Zer a i/\(∀x∈a,0<=x/\x<=100000000)/\Ext W0 wr
theorem zcM(w:Z)(va:I)(K k:Int)(ha:IsN w va K)(am:Lm limG K)(h0:0<=k)(h1:k<=10000) :
  Calls Tryz.prog 192 #[va,X C k] w (RetN w (K*k)):=by
 obtain⟨s,a,m,c,rfl,hs⟩:=ha.form2;obtain⟨xs,hl,hi,hc,hv⟩:=ha.open;have hm:=zbg am hc hv;rw[hl]at hm;unfold limG at hm;have Hs:=hd9 hs;have Hl:=hd9 hl;have Hv:=hd9 hv;clear hs hl hv;obtain⟨W0,g⟩:=gX ((w.alloc (M #[X C s,O a m c] 66)).alloc (M #[X C 0,O Y 0 0] 66));have z0:w.heap.size+1+1=W0.heap.size:=by rw[<-g];simp
 have z1:w.heap.size<W0.heap.size:=oM
 have z2:w.heap.size+1<W0.heap.size:=oM
 have p0:W0.cell? ⟨w.heap.size,0,Y⟩=J (X C s):=by rw[<-g];clear g;go_simp
 have p1:W0.cell? ⟨w.heap.size,1,Y⟩=J (O a m c):=by rw[<-g];clear g;go_simp
 have f:Hid (W0.heap[w.heap.size+1]?=J (M #[X C 0,O Y 0 0] 66 (0,0))):=by rw[<-g];exact hd9 (qhA _ _ _ sM)
 have P:Hid (Ext w W0):=by rw[<-g];exact hd9 eA
 go_enter Tryz.func192,Tryz.ntmps192
 go_wp2_with(at_make;refine mk0 (n:=m) za0 Tryz.underlying64 rfl _ _ rfl _ rfl rfl rfl oM ?_;(try rw[g]);intro w1 j q an;(try simp only[z0]at j))
 try simp only[z0]
 have p:Own 3 w1 W0.heap.size (O (J ⟨W0.heap.size,0,Y⟩) m m) (List.replicate m 0):=j;clear g j z0
 go_loopw [6] (TmS W0 m k xs) (fun t6 _=>m-(intOf t6).toNat)
 case atStart =>
  exact⟨0,_,rfl,by omega,by simp,p,by rw[zax];simp,Zer.replicate _ _,fun x D=>by rw[(List.mem_replicate.1 D).2];omega,q⟩
 case round =>
  clear p q an;obtain⟨i,L,rfl,av,ab,l,aa,ag,T,d⟩:=hrel;have y:=hd9 ab;have R:=hd9 aa;have Q:=hd9 T;have e0:=d.cellS p0;have e1:=d.cellS p1;clear ab aa T
  by_cases aw:i<m
  ·obtain⟨b,o,rfl,ao,q⟩:=(hi.ext (P.out.trans d)).open (by rw[Hl.out];omega)
   obtain⟨x,t⟩:∃x,xs[i]?=J x:=⟨_,gE (by rw[Hl.out];omega)⟩;obtain⟨z,r⟩:∃z,L[i]?=J z:=⟨_,gE (by rw[y.out];omega)⟩;have ap:=q i x t;have au:=l.frozen i;have aq:=l.cell r;have af:=ag _ z r (nE _);rw[af]at r;have ae:=hc.1 x (lM t);unfold C4 at ae;obtain⟨u,hu⟩:=gX (x*k);have u0:0<=u:=by rw[<-hu];exact Int.mul_nonneg ae.1 h0
   have u1:u<=100000000:=by
    have:x*k<=10000*10000:=Int.mul_le_mul oM h1 h0 oM;omega
   have ai:=hd9 t;have aj:=hd9 r;have g0:(0:Int)<=(i:Int):=oM
   have g1:(i:Int)<(m:Int):=oM
   clear q t r af;go_wp2
   go_roundw
   case rel =>
    refine⟨i+1,L.set i u,by go_num,by omega,by simp[y.out],l.stored _ _,?_,ag.set_next _,fun x D=>?_,d.set (nE _) _⟩
    ·rw[<-hu]
     exact znE aj.out ai.out R.out
    ·rcases List.mem_or_eq_of_mem_set D with D|rfl
     ·exact Q.out x D
     ·exact⟨u0,u1⟩
   case measure=>simp[intOf];omega
  ·obtain rfl:i=m:=oM
   have hD:dv C4 L=k*(K.natAbs:Int):=by
    rw[R.out,lT (by rw[Hl.out];omega),Hv.out]
   have ak:0<=dv C4 L:=by rw[hD];exact Int.mul_nonneg h0 oM
   have hN:K*k=s*dv C4 L:=by
    have h2:=zhr K;rw[hD,Hs.out,Int.mul_left_comm,h2,Int.mul_comm]
   have HN:=hd9 hN;have HD:=hd9 hD;have r0:=qcB (d.heapS f.out) (i:=0) (u:=X C 0) rfl;have r1:=qcB (d.heapS f.out) (i:=1) (u:=O Y 0 0) rfl;have ax:=qfB (d.heapS f.out) 0;have ay:=qfB (d.heapS f.out) 1;have zr:=zaa (d.heapS f.out);have XW:Ext w wr:=P.out.trans d
   have ah:Hid (dv C4 L≠0->s=1\/s = -1):=hd9 (fun h9=>by
    rw[Hs.out];refine zho (fun h8=>h9 ?_);rw[HD.out,h8];simp)
   clear hD hN
   go_wp2_with(go_at_call 152;(with_reducible refine(zbO _ s _ L (K*k) l.ints (by rw[y.out];omega) (fun x D=>by have:=Q.out x D;omega) ak HN.out ah.out).mono ?_);rintro e w3 ⟨r3,rfl,ac,ad⟩;obtain⟨s3,a3,m3,c3,rfl,-⟩:=ac.form2;obtain⟨al,ar⟩:=ad.cells)
   exact bR (v:=G #[X C s3,O a3 m3 c3]) (by simp[results,Tryz.results192,go_sem,al,zr,r0,r1]) rfl ⟨_,rfl,ac.keep (zcl (ad.heapS (d.heapS f.out)) _ _),eA⟩
def VaS(w:Z)(s:Int)(a:Option H)(m c:Nat)(xs:List Int)(t3 t4:I)(W:Z):Prop:=
 ∃j:Int,t4=X C j /\ -1<=j/\j<m/\t3=X C (s*dv C4 (xs.drop (j+1).toNat))/\Ext w W/\W.heap[w.heap.size]?=J (M #[X C s,O a m c] 66 (0,0))
theorem zmW{xs:List Int}{k:Nat}{x:Int}(h:xs[k]?=J x):dv C4 (xs.drop k)=x+10000*dv C4 (xs.drop (k+1)):=by
 have a:=(lS.1 h).1;rw[List.drop_eq_getElem_cons a,zbd,(lS.1 h).2];rfl
theorem zep{xs:List Int}(a:Dig C4 xs):∀k:Nat,0<=dv C4 (xs.drop k)/\dv C4 (xs.drop k)<=dv C4 xs:=by
 intro k;have g:=zaG C4 (xs.take k) (xs.drop k);rw[List.take_append_drop]at g;have e:Dig C4 (xs.take k):=fun d h=>a d (List.mem_of_mem_take h)
 have f:Dig C4 (xs.drop k):=fun d h=>a d (List.mem_of_mem_drop h)
 have i:=(zak zbk e).1;have c:=(zak zbk f).1;have j:=zap zbk (xs.take k).length;have:1*dv C4 (xs.drop k)<=C4 ^ (xs.take k).length*dv C4 (xs.drop k):=Int.mul_le_mul_of_nonneg_right oM c;omega
theorem zeu(w:Z)(va:I)(p:Int)(T:IsN w va p)(h0 : -9223372036854775808<=p)(h1:p<=9223372036854775807) :
  Calls Tryz.prog 141 #[va] w fun e w'=>e = .returned (X C p)/\Ext w w':=by
 obtain⟨s,a,m,c,rfl,hs⟩:=T.form2;obtain⟨q,hl,hi,hc,hv⟩:=T.open;have hm:=hi.le;rw[hl]at hm;unfold maxLen at hm;have l:=zhr p;rw[<-hs,<-hv]at l;have v:s = -1\/s=0\/s=1:=by rcases zai p with ⟨e,_⟩|⟨e,_⟩|⟨e,_⟩<;>omega
 have L:=hd9 hl;have P:=hd9 l
 have hD:dv C4 q<=9223372036854775808/\(s=1->dv C4 q<=9223372036854775807):=by
  rcases v with h|h|h<;>subst h<;>omega
 have HD:=hd9 hD;clear hs hl hv l T hD;go_enter Tryz.func141,Tryz.ntmps141;go_wp2
 go_loopw [3,4] (VaS w s a m c q) (fun _ t4 _=>(intOf t4+1).toNat)
 case atStart =>
  refine⟨(m:Int)-1,rfl,by omega,by omega,?_,eA,aN _ _⟩;rw[List.drop_of_length_le (by rw[L.out];omega)];simp
 case round =>
  obtain⟨j,rfl,j0,j1,rfl,hx,d⟩:=hrel;have ab:=qcB d (i:=0) (u:=X C s) rfl;have ac:=qcB d (i:=1) (u:=O a m c) rfl;have K:=hd9 d;clear d
  by_cases hj:0<=j
  ·obtain⟨k,rfl⟩:=Int.eq_ofNat_of_zero_le hj
   have hk:k<m:=oM
   obtain⟨b,o,rfl,ad,y⟩:=(hi.ext hx).open (by rw[L.out];omega);obtain⟨x,f⟩:∃x,q[k]?=J x:=⟨_,gE (by rw[L.out];omega)⟩;have ae:=y k x f;have aa:=hc.1 x (lM f);unfold C4 at aa;have z:=zmW f;have Q:=zep hc.1 k;have R:=zep hc.1 (k+1);rw[show ((k:Int)+1).toNat=k+1 by omega];obtain⟨E,hE⟩:=gX (dv C4 (q.drop (k+1)));rw[hE]at z R ⊢;rw[z]at Q;obtain⟨r,g⟩:=HD.out;obtain⟨D,t⟩:=gX (dv C4 q);rw[t]at Q R r g;obtain⟨A,hA⟩:=gX (s*E);obtain⟨u,hu⟩:=gX (s*x)
   have f1 : -9223372036854775808<=A*10000/\A*10000<=9223372036854775807 /\ -10000<=u/\u<=10000 /\ -9223372036854775808<=A*10000+u/\A*10000+u<=9223372036854775807/\A*10000+u=s*(x+10000*E):=by
    rcases v with h|h|h<;>subst h<;>(try have:=g rfl)<;>omega
   obtain⟨f1,f2,f3,f4,f5,f6,f7⟩:=f1;have F7:=hd9 f7;have D1:=hd9 z;clear z Q R hE r g t f7 y f;rw[hA];go_wp2
   go_quiet (fail)
   go_wp2
   go_roundw
   case rel =>
    refine⟨(k:Int)-1,rfl,by omega,by omega,?_,eA,K.out⟩;rw[show ((k:Int)-1+1).toNat=k by omega,D1.out,F7.out]
   case measure=>simp[intOf]
  ·obtain rfl:j = -1:=oM
   have e:s*dv C4 (q.drop ((-1:Int)+1).toNat)=p:=by
    simp only[show ((-1:Int)+1).toNat=0 from rfl,List.drop_zero];exact P.out
   rw[e];clear e;go_wp2;go_ret;exact⟨rfl,eA⟩
def fix7(n:Nat):List UInt8:=[n / 1000000,n / 100000,n / 10000,n / 1000,n / 100,n / 10,n].map fun d=>UInt8.ofNat (48+d % 10)
def chunksF:Nat->Nat->List (List UInt8)
 | 0,_=>[]
 | k+1,n=>if n=0 then []else chunksF k (n / 10000000)++[fix7 (n % 10000000)]
def textN(n:Nat):List UInt8:=if Lib.trimLeftB (chunksF (n+1) n).flatten 48=[]then [48]else Lib.trimLeftB (chunksF (n+1) n).flatten 48
theorem zk5(n:Nat):(fix7 n).length=7:=rfl
theorem ziY(n:Nat):(fix7 n).map (fun b=>Value.int .u8 (b.toNat:Int))=[n / 1000000,n / 100000,n / 10000,n / 1000,n / 100,n / 10,n].map fun d=>Value.int .u8 ((48+d % 10:Nat):Int):=by
 unfold fix7;rw[List.map_map];refine List.map_congr_left fun d _=>?_
 have:(UInt8.ofNat (48+d % 10)).toNat=48+d % 10:=UInt8.toNat_ofNat_of_lt' (by simp[UInt8.size];omega);simp only[Function.comp_apply,this]
def fixC(n:Nat):Nat->List Int
 | 0=>[0,0,0,0,0,0,0]
 | i+1=>(fixC n i).set (6-i) ((48+n / 10 ^ i % 10:Nat):Int)
def fixA(n i:Nat):Array I:=((fixC n i).map (Value.int .u8)).toArray
theorem zgR(n:Nat):∀i,(fixC n i).length=7
 | 0=>rfl
 | i+1=>by rw[fixC,List.length_set,zgR n i]
theorem zk6(n:Nat):fixA n 7=((fix7 n).map fun b=>Value.int .u8 (b.toNat:Int)).toArray:=by
 rw[ziY];simp[fixA,fixC]
theorem zk7(n:Nat){i:Nat}(a:i<7):(fixA n i).setIfInBounds (6-i) (X .u8 ((48+n / 10 ^ i % 10:Nat):Int))=fixA n (i+1):=by
 unfold fixA;rw[List.setIfInBounds_toArray,fixC,List.map_set]
theorem zf9{k n:Nat}(h:n<k)(a:n≠0):∃k',k=k'+1/\n / 10000000<k'/\chunksF k n=chunksF k' (n / 10000000)++[fix7 (n % 10000000)]:=by
 obtain⟨k',rfl⟩:∃k',k=k'+1:=⟨k-1,by omega⟩;exact⟨k',rfl,by omega,by rw[chunksF,if_neg a]⟩
theorem zch(k:Nat):chunksF k 0=[]:=by cases k<;>simp[chunksF]
def sc(s:List UInt8):List I:=[.string ⟨s.toArray⟩]
def limT:Nat:=100000
def TxS(w:Z)(e:Nat)(g:Nat)(t3:I)(W:Z):Prop:=
 ∃(n k:Nat)(d:List (List UInt8))(a:Option H)(m c:Nat),g=n/\n<k/\chunksF (e+1) e=chunksF k n++d/\d.length<=2*limT/\n*2 ^ (23*d.length)<=e/\(∀s∈d,s.length=7)/\Ext w W /\
  W.heap[w.heap.size]?=J (M #[O a m c] 59 (0,0))/\IsD W (G #[O a m c]) n/\OwnC 9 1 W w.heap.size t3 (d.map sc)/\w.heap.size<W.heap.size
def TiS(W0:Z)(n:Nat)(b:Nat)(g:Nat)(a t25:I)(W:Z):Prop:=
 ∃i:Nat,i<=7/\g=7-i/\t25=X C i/\a=X .u64 ((n / 10 ^ i:Nat):Int)/\Ext W0 W/\W.heap[b]?=J (M (fixA n i) 5 (0,0))
theorem TxS.step{a n k:Nat}{ps:List (List UInt8)}(p:Lm limT a)(f:n≠0)(o:n<k)(m:chunksF (a+1) a=chunksF k n++ps)(g:n*2 ^ (23*ps.length)<=a) :
  ∃k',n / 10000000<k'/\chunksF (a+1) a=chunksF k' (n / 10000000)++(fix7 (n % 10000000)::ps)/\(fix7 (n % 10000000)::ps).length<=2*limT/\n / 10000000*2 ^ (23*(fix7 (n % 10000000)::ps).length)<=a:=by
 obtain⟨k',rfl,i,j⟩:=zf9 o f;refine⟨k',i,by rw[m,j,List.append_assoc];rfl,?_,?_⟩
 ·have c:(a:Int)<B ^ limT:=p.2
  have e:(B:Int) ^ limT=((2 ^ (24*limT):Nat):Int):=by
   rw[Nat.pow_mul];unfold B;rw[Int.natCast_pow];rfl
  rw[e]at c;have d:a<2 ^ (24*limT):=by exact_mod_cast c
  have l:2 ^ (23*ps.length)<=a:=nT (Nat.le_mul_of_pos_left _ (Nat.pos_of_ne_zero f)) g;have q:23*ps.length<24*limT:=(Nat.pow_lt_pow_iff_right (by decide:1<2)).1 (Nat.lt_of_le_of_lt l d);rw[List.length_cons];unfold limT at *;omega
 ·rw[List.length_cons,Nat.mul_add,Nat.pow_add]
  have:n / 10000000*8388608<=n:=oM
  have e:n / 10000000*(2 ^ (23*ps.length)*2 ^ (23*1))=(n / 10000000*8388608)*2 ^ (23*ps.length):=by
   rw[show (2:Nat) ^ (23*1)=8388608 from rfl,Nat.mul_comm (2 ^ (23*ps.length)),Nat.mul_assoc]
  exact nT (Nat.le_of_eq e) (nT (Nat.mul_le_mul_right _ this) g)
theorem znk(W:Z){x:Int}(a:0<x)(c:x<B):IsD (W.alloc (M #[X C x] 2)) (G #[O (J ⟨W.heap.size,0,Y⟩) 1 1]) x:=by
 refine⟨_,[x],rfl,⟨rfl,_,1,rfl,nE _,by unfold maxLen;omega,.inr ⟨W.heap.size,0,_,(0,0),rfl,aN _ _,?_⟩⟩,⟨?_,?_⟩,by simp⟩
 ·intro i v hv
  match i,hv with
  | 0,hv=>simpa[lits] using hv
  | i+1,hv=>simp[lits]at hv
 ·intro d e
  rw[List.mem_singleton.1 e];exact⟨Int.le_of_lt a,c⟩
 ·simp
  omega
theorem zkp{P:Program}{T t:TypeId}{k bytes:Nat}{z:I}{w:Z}{base:Nat}{v sl:I}{cs:List (List I)}{ops:Array Oper}{o:Oper}{a:Act}{K:Act->Z->Prop}{Q:Exit->Act->Z->Prop}{E:Prop}
  (e:(P.info? T).map (fun i=>(i.zero,i.size,i.bytes))=J (J z,k,bytes))(q:z.cells.size=k)(hk:0<k)(m:bytes<=1000)(ht:P.underlying t=J (.slice T))(p:o.guard=Y)(s x:Operand)
  (ho:o.op = .call { callee:=.builtin .append,args:=#[s,x],argTypes:=#[t,t] })(hs:a.eval s=v)(g:OwnC T k w base v cs)(hx:a.eval x=sl)
  (ds:List (List I))(R:∀c∈ds,c.length=k)(l:Rd w T k sl ds.length ds.flatten)(r:∀u∈ds.flatten,u.oneCell'=true)(f:cs.length+ds.length<=100000000000)(d:base<=w.heap.size)
  (h:∀v' w',OwnC T k w' base v' (cs++ds)->w.grownBy w' v.ownBlock->(v'.ownBlock=v.ownBlock\/v'.ownBlock=J w.heap.size)->K (a.put o.dst v') w') :
  if Region.wanted o (yielded ops a.tmps)=true then Oper.wp P o a w K Q else E:=by
 have hw:Region.wanted o (yielded ops a.tmps)=true:=by simp[Region.wanted,p]
 rw[if_pos hw];obtain⟨v',w',j,y,D,L⟩:=zhm (P:=P) o.type e q hk m ht g R l r f d;unfold Oper.wp;simp[execOp,ho,resolve,invoke,builtin,hs,hx,j,Result.andThen];exact h v' w' y D L
theorem mk7(W:Z):(Instr.makeSlice 308 (X C 7) (X C 7)).run Tryz.prog W = .ok (O (J ⟨W.heap.size,0,Y⟩) 7 7) (W.alloc (M #[X .u8 0,X .u8 0,X .u8 0,X .u8 0,X .u8 0,X .u8 0,X .u8 0] 5)):=by
 kernel_rfl
theorem conv7{W:Z}{b q:Nat}{a:Nat×Nat}(h:W.heap[b]?=J (M (fixA q 7) 5 a)):(convert 308 9 (O (J ⟨b,0,Y⟩) 7 7)).run Tryz.prog W = .ok (.string ⟨(fix7 q).toArray⟩) W:=by
 refine run_convert_bytes_back W 308 9 5 ⟨b,0,Y⟩ 7 (fix7 q) Tryz.underlying308 Tryz.underlying5 Tryz.underlying9 fun j c=>?_
 have e:((⟨b,0,Y⟩:H).add j)=⟨b,j,Y⟩:=by unfold Addr.add;split<;>simp_all
 rw[e];rw[zk6]at h;refine qcB h ?_;rw[List.getElem?_toArray,lP,gE c];rfl
theorem zon{w:Z}{base:Nat}(s:List UInt8)(a:base<=w.heap.size):OwnC 9 1 (w.alloc (M #[.string ⟨s.toArray⟩] 9)) base (O (J ⟨w.heap.size,0,Y⟩) 1 1) [sc s]:=
 ⟨fun c d=>by rw[List.mem_singleton.1 d];rfl,⟨by simp[sc],.inr ⟨w.heap.size,1,#[.string ⟨s.toArray⟩],rfl,a,aN w _,by simp,by simp[maxLen],by simp,by simp[sc]⟩⟩⟩
theorem zov{ps:List (List UInt8)}:∀u∈(ps.map sc).flatten,u.oneCell'=true:=by
 intro u a;obtain⟨d,c,a⟩:=List.mem_flatten.1 a;obtain⟨p,_,rfl⟩:=List.mem_map.1 c;rw[List.mem_singleton.1 a];rfl
theorem zou{ps:List (List UInt8)}:∀c∈ps.map sc,c.length=1:=by
 intro c a;obtain⟨p,_,rfl⟩:=List.mem_map.1 a;rfl
theorem zlj:(Tryz.prog.info? 9).map (fun i=>(i.zero,i.size,i.bytes))=J (J (.string ⟨#[]⟩),1,16):=kM
theorem zeQ:∀xs:List (List UInt8),Lib.join xs []=xs.flatten
 | []=>rfl
 | [x]=>by simp[Lib.join]
 | x::y::r=>by
  have:=zeQ (y::r);simp only[Lib.join,List.flatten_cons]at this ⊢
  simpa using this
theorem flat7:∀{a:List (List UInt8)},(∀s∈a,s.length=7)->a.flatten.length=7*a.length
 | [],_=>rfl
 | s::a,h=>by
  rw[List.flatten_cons,lA,flat7 (fun x c=>h x (mC _ c)),h s (by simp),List.length_cons];omega
theorem zkd:∀ps:List (List UInt8),(ps.map sc).flatten=ps.map fun s=>Value.string ⟨s.toArray⟩
 | []=>rfl
 | s::ps=>by
  rw[List.map_cons,List.flatten_cons,zkd ps,List.map_cons];rfl
theorem zlk(w:Z)(v:I)(base:Nat)(ps:List (List UInt8))(h:OwnC 9 1 w base v (ps.map sc))(p:ps.length<=2*limT)(u:∀s∈ps,s.length=7) :
  Calls Tryz.prog 250 #[v,.string ⟨#[]⟩] w fun e r=>e = .returned (.string ⟨ps.flatten.toArray⟩)/\Ext w r:=by
 obtain⟨a,n,c,rfl⟩:=h.form3;have q:=h.len;rw[lL]at q;subst q
 by_cases l:ps=[]
 ·subst l
  refine(Tryz.strings_Join_none a c ⟨#[]⟩ w).mono ?_;rintro e r ⟨rfl,rfl⟩;exact⟨rfl,eR _⟩
 ·have i:=h.rd
  rw[lL]at i;obtain⟨t,o,rfl,y,_,z⟩:=i.open (List.length_pos_iff.2 l);have d:=i.le;have g:(ps.map fun s:List UInt8=>(⟨s.toArray⟩:ByteArray)).length=ps.length:=lL ..
  have k:((ps.map fun s:List UInt8=>(⟨s.toArray⟩:ByteArray)).map (·.data.toList))=ps:=by
   rw[List.map_map]
   conv=>rhs;rw[<-List.map_id ps]
   exact List.map_congr_left fun s _=>by simp
  have D:=flat7 u
  have m:=Tryz.strings_Join t o c (ps.map fun s:List UInt8=>(⟨s.toArray⟩:ByteArray)) ⟨#[]⟩ w (fun j x f=>by
   rw[lP]at f
   cases hp:ps[j]? with
   | none=>rw[hp]at f;cases f
   | some s =>
    rw[hp]at f
    cases f
    refine z j _ ?_;rw[zkd,lP,hp];rfl) y (by rw[g];unfold limT at p;omega) (by rw[g];exact d.1) (by rw[k,zeQ,D];unfold limT at p;omega)
  rw[g,k,zeQ]at m;exact m
end
section
open Go.RowKit Go.Shelf Go.Sort Go.Lib
def inP(s:Sp)(x:Int):Bool:=decide (s.lo<x)&&decide (x<s.hi)
def midP(s:Sp)(ps:LP):List Int:=(ps.map (·.1)).filter (inP s)
def stopsZ(s:Sp):List Int:=compact (isort (s.lo::s.hi::midP s (s.over++s.under)))
def stopsR(s:Sp):List Rat:=(stopsZ s).map fun z:Int=>(z:Rat)
def SpOk(s:Sp):Prop:=LnOk s.over/\LnOk s.under/\Bd 104000 s.lo/\Bd 104000 s.hi
theorem zcf{ps a:LP}(h:LnOk ps)(k:LnOk a):SpOk (btw ps a):=by
 have c:=zdi h;have d:=zdi k;refine⟨h,k,?_,?_⟩<;>(unfold btw;unfold Bd at *;dsimp only;omega)
theorem zfR{s:Sp}(h:SpOk s):∀z∈stopsZ s,Bd 104000 z:=by
 intro z g;have:=zc7 g;rw[isort_mem]at this;obtain⟨c,d,e,f⟩:=h
 rcases List.mem_cons.1 this with rfl|this
 ·exact e
 rcases List.mem_cons.1 this with rfl|this
 ·exact f
 obtain⟨p,a,rfl⟩:=List.mem_map.1 (List.mem_filter.1 this).1
 rcases List.mem_append.1 a with a|a
 ·exact(c.2.1 p a).1
 ·exact(d.2.1 p a).1
theorem zlq(s:Sp)(ps:LP):(midP s ps).length<=ps.length:=by
 unfold midP;exact nT (List.length_filter_le _ _) sM
theorem zjF{s:Sp}{ps:LP}{i:Nat}{p:Int×Int}(h:ps[i]?=J p):midP s (ps.take (i+1))=midP s (ps.take i)++(if inP s p.1 then [p.1]else []):=by
 unfold midP;rw[zab _ _ _ h,List.map_append,List.filter_append]
 congr 1
 simp[List.filter_cons]
def StS(W0:Z)(base:Nat)(s:Sp)(a:I)(g:Nat)(t3 t21:I)(W:Z):Prop:=
 ∃i:Nat,i<=(s.over++s.under).length/\t21=X C i/\g=(s.over++s.under).length-i/\Ext W0 W/\base<=W.heap.size/\IsPts W a (s.over++s.under)/\OwnC 3 1 W base t3 ((s.lo::s.hi::midP s ((s.over++s.under).take i)).map ic)
def StT(W0:Z)(base:Nat)(zs:List Int)(v46:I)(g:Nat)(c a:I)(W:Z):Prop:=
 ∃i:Nat,i<=zs.length/\a=X C i/\g=zs.length-i/\Ext W0 W/\base<=W.heap.size/\OwnC 3 1 W base v46 (zs.map ic)/\OwnR W base c ((zs.take i).map fun z:Int=>(z:Rat))
theorem zng(W:Z)(x:Int)(T:TypeId):∀(j:Nat) u,[ic x].flatten[j]?=J u->(W.alloc (M #[X C x] T)).cell? ((⟨W.heap.size,0,Y⟩:H).add j)=J u:=by
 intro j u a
 match j,a with
 | 0,a=>simp[ic]at a;subst a;simp[Addr.add]
 | j+1,a=>simp[ic]at a
theorem zm6(x:Int):∀u∈[ic x].flatten,u.oneCell'=true:=zn6 (zs:=[x])
theorem zno(W:Z)(base:Nat)(x y:Int)(h:base<=W.heap.size):OwnC 3 1 (W.alloc (M #[X C x,X C y] 3)) base (O (J ⟨W.heap.size,0,Y⟩) 2 2) ([x,y].map ic):=
 ⟨zjl,by simp[ic],.inr ⟨W.heap.size,2,_,rfl,h,aN _ _,by simp,by unfold maxLen;omega,by simp,by simp[ic]⟩⟩
theorem zkA(W:Z){b:Nat}(m:b=W.heap.size){e f:I}{ps j:LP}(k:IsPts W e ps)(l:IsPts W f j):Sl 121 1 (PSl 121) (W.alloc (M #[e,f] 121)) (O (J ⟨b,0,Y⟩) 2 2) [ps,j]:=by
 subst m;refine⟨[[e],[f]],rfl,by simp,⟨by simp,J ⟨W.heap.size,0,Y⟩,2,rfl,nE _,by unfold maxLen;omega,.inr ⟨W.heap.size,0,#[e,f],(0,0),rfl,aN _ _,?_⟩⟩,?_⟩
 ·intro i x a
  simpa using a
 ·intro i c x d a
  have g:Ext W (W.alloc (M #[e,f] 121)):=(eR W).alloc _
  match i,d,a with
  | 0,d,a=>simp at d a;subst d a;exact⟨_,rfl,k.ext' g⟩
  | 1,d,a=>simp at d a;subst d a;exact⟨_,rfl,l.ext' g⟩
  | i+2,d,a=>simp at d
theorem zoj(W:Z)(x y z:I)(T:TypeId):∀(j:Nat) u,[[x,y,z]].flatten[j]?=J u->(W.alloc (M #[x,y,z] T)).cell? ((⟨W.heap.size,0,Y⟩:H).add j)=J u:=by
 intro j u a
 match j,a with
 | 0,a=>simp at a;subst a;simp[Addr.add]
 | 1,a=>simp at a;subst a;simp[Addr.add]
 | 2,a=>simp at a;subst a;simp[Addr.add]
 | j+3,a=>simp at a
theorem OwnR.app{g wr:Z}{base:Nat}{l:I}{f:List Rat}{cs:List (List I)}{d:List I}{q:Rat}(h:OwnC 63 3 g base l (cs++[d]))(j:cs.length=f.length)
  (k:∀(i:Nat) c q,cs[i]?=J c->f[i]?=J q->PR wr c q)(p:KeepT 2 wr g)(m:IsR g (G d.toArray) q):OwnR g base l (f++[q]):=by
 refine⟨cs++[d],h,by simp[j],fun i c x a e=>?_⟩
 by_cases o:i<cs.length
 ·rw[List.getElem?_append_left o]at a
  rw[List.getElem?_append_left oM]at e;exact IsR.keep (k i c x a e) p
 ·rw[List.getElem?_append_right oM]at a e
  have r:=(lS.1 a).1;simp at r;have:i-cs.length=0:=oM
  rw[this]at a;rw[show i-f.length=0 by omega]at e;simp at a e;subst a e;exact m
theorem zfS(w:Z)(v1 v2:I)(s:Sp)(h1:IsPts w v1 s.over)(h2:IsPts w v2 s.under)(ap:SpOk s) :
  Calls Tryz.prog 105 #[spc s v1 v2] w (RetRs w (stopsR s)):=by
 obtain⟨a1,m1,rfl⟩:=h1.form;obtain⟨a2,m2,rfl⟩:=h2.form;obtain⟨R,hR⟩:=gX (RetRs w (stopsR s));rw[hR];have HR:=hd9 hR;have bj:=hd9 ap;clear hR;unfold spc;obtain⟨Q,f1⟩:=gX s.over.length;obtain⟨n2,f2⟩:=gX s.under.length;obtain⟨lo,az⟩:=gX s.lo;obtain⟨hi,ay⟩:=gX s.hi;rw[f1]at h1 ⊢;rw[f2]at h2 ⊢;rw[az,ay];have aK:=hd9 az;have aJ:=hd9 ay;have hn:(s.over++s.under).length=Q+n2:=by simp[f1,f2]
 have K:=hd9 hn;have q1:Q<=64:=by rw[<-f1];exact ap.1.2.2
 have q2:n2<=64:=by rw[<-f2];exact ap.2.1.2.2
 have H1:=hd9 (fun(W:Z)(hW:Ext w W)=>h1.ext' hW);have H2:=hd9 (fun(W:Z)(hW:Ext w W)=>h2.ext' hW);clear ap f1 f2 az ay hn h1 h2;go_enter Tryz.func105,Tryz.ntmps105;obtain⟨W0,am⟩:=gX ((w.alloc (M #[O a1 Q m1,O a2 n2 m2,X C lo,X C hi] 138)));have hB:W0.heap[w.heap.size]?=J (M #[O a1 Q m1,O a2 n2 m2,X C lo,X C hi] 138 (0,0)):=by rw[<-am];exact aN _ _
 have bo:Ext w W0:=by rw[<-am];exact(eR _).alloc _
 have aB:W0.heap.size=w.heap.size+1:=by rw[<-am];simp
 have b0:=qcB hB (i:=0) (u:=O a1 Q m1) rfl;have b1:=qcB hB (i:=1) (u:=O a2 n2 m2) rfl;have b2:=qcB hB (i:=2) (u:=X C lo) rfl;have b3:=qcB hB (i:=3) (u:=X C hi) rfl;have HP:=hd9 bo;have aa:=hd9 aB
 go_wp2_with(go_at_call 104;(with_reducible refine(ziH _ _ [s.over,s.under] (zkA _ ?_ (H1.out _ ?_) (H2.out _ ?_)) ?_).mono ?_);(simp only[wZ];have:=aa.out;omega);(exact HP.out.alloc _);(exact HP.out.alloc _);(have:=K.out;simp only[tot,List.flatten_cons,List.flatten_nil,List.append_nil];omega);rintro e w3 ⟨v3,rfl,q,ar⟩;obtain⟨a3,n3,c3,rfl⟩:=q.form3;obtain⟨bp,bq⟩:=ar.cells)
 rw[show [s.over,s.under].flatten=s.over++s.under by simp]at q;have ba:=q.pts;have aX:=q.len;rw[lL,K.out]at aX;subst aX;have aC:Ext W0 w3:=(((eR W0).alloc _).alloc _).trans ar;have bg:=aC.size;have P:=(((zno W0 W0.heap.size lo hi (nE _)).ext ((eR _).alloc (M #[O a1 Q m1,O a2 n2 m2] 121))).ext ar);rw[aB]at P;clear bp bq ar am b0 b1 b2 b3
 go_loopg [3,21] (Q+n2) (StS W0 (w.heap.size+1) s (O a3 (Q+n2) c3))
 case atStart =>
  refine⟨0,by omega,rfl,by rw[K.out];rfl,aC,by rw[<-aB];exact bg,ba,?_⟩;rw[aK.out,aJ.out,List.take_zero,show midP s []=[]from rfl];exact P
 case round =>
  clear P ba q aC bg;obtain⟨i,br,rfl,rfl,hx,ao,aq,a⟩:=hrel;rw[K.out]at br;obtain⟨bl,bh,aQ,rfl⟩:=a.form3;have aY:=zlq s ((s.over++s.under).take i);have aZ:((s.over++s.under).take i).length<=i:=by simp;omega
  have ab:((s.lo::s.hi::midP s ((s.over++s.under).take i)).map ic).length<=200:=by simp;omega
  have b0:=hx.cellS (qcB hB (i:=0) (u:=O a1 Q m1) rfl);have b1:=hx.cellS (qcB hB (i:=1) (u:=O a2 n2 m2) rfl);have b2:=hx.cellS (qcB hB (i:=2) (u:=X C lo) rfl);have b3:=hx.cellS (qcB hB (i:=3) (u:=X C hi) rfl);have f:=hd9 a;have Hx:=hd9 hx;have ak:=hd9 aq;have ai:=hd9 ab;have Hb:=hd9 hB;have bB:=hx.size;have bA:w.heap.size<wr.heap.size:=by have:=aa.out;omega
  by_cases ac:i<Q+n2
  ·obtain⟨⟨x,z⟩,aH⟩:∃p,(s.over++s.under)[i]?=J p:=⟨(s.over++s.under)[i]'(by rw[K.out];exact ac),by simp[K.out,ac]⟩
   obtain⟨b,o,rfl,hb,c0,c1⟩:=aq.at' aH;have a6:=zjF (s:=s) aH;have aj:=hd9 a6;have aW:inP s x=(decide (lo<x)&&decide (x<hi)):=by unfold inP;rw[aK.out,aJ.out]
   have ah:=hd9 aW;clear a6 aH aq a hx aY aZ aW hB
   by_cases hc:lo<x/\x<hi
   ·obtain⟨g1,g2⟩:=hc
    obtain⟨n3,bx⟩:=gX bh;have hE:midP s ((s.over++s.under).take (i+1))=midP s ((s.over++s.under).take i)++[x]:=by rw[aj.out];dsimp only;rw[ah.out];simp[g1,g2]
    have HE:=hd9 hE;clear hE aj ah
    go_wp2_with(at_builtin;refine appC (T:=3) (t:=64) (z:=X C 0) (k:=1) (bytes:=8) (base:=w.heap.size+1) (v:=O bl bh aQ) (m:=1) (c:=1) (ad:=⟨wr.heap.size+1,0,Y⟩) zm8 rfl dM dM Tryz.underlying64 rfl _ _ rfl rfl (f.out.ext eA) rfl [ic x] rfl (by simp[ic]) (by simpa using zng (wr.alloc (M #[X C x,X C z] 43)) x 3) (zm6 x) (by have:=ai.out;omega) (by simp only[wZ];omega) ?_;intro v' w5 r l a4;obtain⟨a5,n5,c5,rfl⟩:=r.form3)
    go_roundg (Q+n2-(i+1))
    case measure=>have:=K.out;rw[lA]at this;omega
    case rel =>
     have y:Ext wr ((wr.alloc (M #[X C x,X C z] 43)).alloc (M #[X C x] 3)):=((eR wr).alloc _).alloc _;have L:=f.out.ext y;have ae:=zad (base:=w.heap.size+1) l (by simp only[wZ];omega) (fun k hk=>(L.lt k hk).1);refine⟨i+1,by rw[K.out];omega,by go_num,by rw[K.out],(Hx.out.trans y).thenB ae (by rw[aa.out];exact nE _),nT ao (nT y.size ae.size),(ak.out.ext' y).keep' (L.keepT dM l),?_⟩;rw[HE.out]
     simpa using r
   ·have hE:midP s ((s.over++s.under).take (i+1))=midP s ((s.over++s.under).take i):=by
     rw[aj.out];dsimp only;rw[ah.out,if_neg (by simp;omega),List.append_nil]
    have HE:=hd9 hE;clear hE aj ah
    by_cases g1:lo<x
    ·have g2:¬x<hi:=fun h=>hc ⟨g1,h⟩
     go_wp2
     go_roundg (Q+n2-(i+1))
     case measure=>have:=K.out;rw[lA]at this;omega
     case rel =>
      have y:Ext wr (wr.alloc (M #[X C x,X C z] 43)):=((eR wr).alloc _);refine⟨i+1,by rw[K.out];omega,by go_num,by rw[K.out],Hx.out.trans y,nT ao y.size,ak.out.ext' y,?_⟩;rw[HE.out];exact f.out.ext y
    ·go_wp2
     go_roundg (Q+n2-(i+1))
     case measure=>have:=K.out;rw[lA]at this;omega
     case rel =>
      have y:Ext wr (wr.alloc (M #[X C x,X C z] 43)):=((eR wr).alloc _);refine⟨i+1,by rw[K.out];omega,by go_num,by rw[K.out],Hx.out.trans y,nT ao y.size,ak.out.ext' y,?_⟩;rw[HE.out];exact f.out.ext y
  ·obtain rfl:i=Q+n2:=oM
   have hE:(s.over++s.under).take (Q+n2)=s.over++s.under:=lT (by rw[K.out];exact nE _);rw[hE]at a f ab ai;obtain⟨g,rfl,aT,bw⟩:=a.blk sM;have aI:(s.lo::s.hi::midP s (s.over++s.under)).length<=200:=by rw[lL]at ab;exact ab
   have al:=hd9 aI;obtain⟨L1,aA⟩:=gX ((s.lo::s.hi::midP s (s.over++s.under)));rw[aA]at a f ab ai aI al;have aL:=hd9 aA;clear hE aA a aY aZ ab aq hx hB
   go_wp2_with(first|(go_at_call 172;(with_reducible refine(zjq _ _ _ _ _ _ f.out ?_).mono ?_);(have:=al.out;omega);rintro e w5 ⟨rfl,r,aU⟩)|(go_at_call 173;(with_reducible refine(zfs _ _ _ _ _ _ r ?_).mono ?_);(have:=al.out;rw[zbP];omega);rintro e w6 ⟨rfl,D,aV⟩))
   have an:=zad (base:=w.heap.size+1) aU oM (fun k hk=>by cases hk;exact aT);have aD:=zad (base:=w.heap.size+1) aV (nT ao an.size) (fun k hk=>by cases hk;exact aT);have aR:Ext W0 w6:=(Hx.out.thenB an (by rw[aa.out];exact nE _)).thenB aD (by rw[aa.out];exact nE _);have bc:w.heap.size+1<=w6.heap.size:=by have:=an.size;have:=aD.size;omega
   obtain⟨zs,au⟩:=gX (compact (isort L1));have bt:zs.length<=200:=by rw[<-au];have:=zc3 (isort L1);rw[zbP]at this;omega
   have ag:stopsZ s=zs:=by unfold stopsZ;rw[aL.out,au]
   have aM:=hd9 (zfR bj.out);rw[ag]at aM;have aP:=hd9 ag;rw[au]at D ⊢;obtain⟨m,hm⟩:=gX zs.length;rw[hm]at D bt ⊢;have Hm:=hd9 hm;clear hm au ag r aU aV an aD f aL aI al ai ak b0 b1 b2 b3 Hb ac
   go_loopg [6,48] m (StT W0 (w.heap.size+1) zs (O (J ⟨g,0,Y⟩) m aQ))
   case atStart=>exact⟨0,by omega,rfl,by rw[Hm.out];rfl,aR,bc,D,by simpa using OwnR.nil _ _⟩
   case round =>
    clear D aR bc;obtain⟨i,bs,rfl,rfl,hx,bv,a,hR⟩:=hrel;rw[Hm.out]at bs;obtain⟨cs,aG,aF,aS⟩:=hR;obtain⟨bm,bu,bn,rfl⟩:=aG.form3;have ax:=hd9 aG;have aw:=hd9 aS;have av:=hd9 aF;have f:=hd9 a;have aO:=hd9 hx;have zg:=(a.lt g rfl).2
    by_cases ac:i<m
    ·obtain⟨z,hz⟩:∃z,zs[i]?=J z:=⟨zs[i]'(by rw[Hm.out];exact ac),by simp[Hm.out,ac]⟩
     have c0:=a.cell (i:=i) (j:=0) (d:=ic z) (u:=X C z) (by rw[lP,hz];rfl) rfl;simp only[Nat.mul_one,Nat.add_zero]at c0;have aE:=aM.out z (lM hz);have a0:cs.length<=200:=by rw[aF];simp;omega
     have bi:=hd9 a0;have HC:=hd9 (fun W=>zaP W z (by unfold Bd at aE;omega) (by unfold Bd at aE;omega));have be:(zs.take (i+1)).map (fun z:Int=>(z:Rat))=(zs.take i).map (fun z:Int=>(z:Rat))++[(z:Rat)]:=by rw[zab _ _ _ hz,List.map_append];rfl
     have bk:=hd9 be;clear be hz aG aS aF a hx aE a0
     go_wp2_with(first|(go_at_call 85;(with_reducible refine(HC.out _).mono ?_);rintro e w7 ⟨r7,rfl,bb,bf⟩;obtain⟨a7,m7,c7,s7,a8,m8,c8,rfl⟩:=bb.form)|(at_builtin;refine appC (T:=63) (t:=177) (z:=G #[O Y 0 0,F false,O Y 0 0]) (k:=3) (bytes:=56) (base:=w.heap.size+1) (v:=O bm bu bn) (m:=1) (c:=1) (ad:=⟨w7.heap.size,0,Y⟩) zn7 rfl dM dM Tryz.underlying177 rfl _ _ rfl rfl (ax.out.ext eA) rfl [[O a7 m7 c7,F s7,O a8 m8 c8]] rfl sM (zoj _ _ _ _ _) (by simp[Value.oneCell']) (by have:=bi.out;omega) (by have:=bf.size;simp only[wZ,qdZ]at *;omega) ?_;intro v' w8 af l a4;obtain⟨a9,n9,c9,rfl⟩:=af.form3))
     go_roundg (m-(i+1))
     case measure=>have:=Hm.out;omega
     case rel =>
      have y:Ext wr (w7.alloc (M #[O a7 m7 c7,F s7,O a8 m8 c8] 63)):=(((eR wr).trans bf).alloc _);have L:=ax.out.ext y;have bz:=y.size;have ae:=zad (base:=w.heap.size+1) l oM (fun k hk=>(L.lt k hk).1);refine⟨i+1,by rw[Hm.out];omega,by go_num,by rw[Hm.out],(aO.out.trans y).thenB ae (by rw[aa.out];exact nE _),by have:=ae.size;omega,(f.out.ext y).keep (L.keepT dM l),?_⟩;rw[bk.out];exact OwnR.app af av.out aw.out (y.keep.trans (L.keepT dM l)) (bb.keep (((eR w7).alloc _).keep.trans (L.keepT dM l)))
    ·obtain rfl:i=m:=oM
     have hE:zs.take i=zs:=lT (by rw[Hm.out];exact nE _);rw[hE]at aw av;clear hE;go_wp2;rw[<-HR.out];refine⟨_,rfl,?_,HP.out.trans aO.out⟩;unfold stopsR;rw[aP.out];exact OwnR.mono ⟨cs,ax.out,av.out,aw.out⟩ oM
end
section
open Go.RowKit Go.Shelf
theorem zac{W:Z}{p:H}{v:I}(h:W.cell? p=J v):W.setCell p v=W:=by
 obtain⟨heap,f,d,l,a⟩:=W;unfold World.cell? at h;unfold World.setCell;simp only[World.mk.injEq,and_true]
 apply Array.ext_getElem?
 intro i;rw[Array.getElem?_modify]
 by_cases e:p.block=i
 ·subst e
  rw[if_pos rfl];dsimp only at h
  cases hb:heap[p.block]? with
  | none=>rfl
  | some o =>
   rw[hb]at h
   cases o with
   | cells c T k =>
    dsimp only at h
    split at h
    ·cases h
    ·rename_i hs
     have g:c.setIfInBounds p.off v=c:=by
      apply Array.ext_getElem?
      intro j;rw[Array.getElem?_setIfInBounds]
      split
      ·rename_i hj
       subst hj;rw[h];simp[(Array.getElem?_eq_some_iff.1 h).1]
      ·rfl
     simp[hs,g]
   | _=>cases h
 ·rw[if_neg e]
def stL(W:Z)(b:Nat):Nat->List I->Z
 | _,[]=>W
 | i,v::vs=>stL (W.setCell ⟨b,i,Y⟩ v) b (i+1) vs
def putA(cs:Array I):Nat->List I->Array I
 | _,[]=>cs
 | i,v::vs=>putA (cs.setIfInBounds i v) (i+1) vs
theorem zkm{b:Nat}{T:TypeId}{d:Nat×Nat}:∀(a:List I)(i:Nat){W:Z}{c:Array I},W.heap[b]?=J (M c T d)->(stL W b i a).heap[b]?=J (M (putA c i a) T d)
 | [],_,_,_,h=>h
 | _::a,i,_,_,h=>zkm a (i+1) (zbc h i _)
theorem zfI:∀(e d a:List I),d.length=e.length->putA (a++d).toArray a.length e=(a++e).toArray
 | [],d,a,h=>by rw[List.eq_nil_of_length_eq_zero h];rfl
 | v::e,[],_,h=>by cases h
 | v::e,c::d,a,h=>by
  have f:=zfI e d (a++[v]) (by simpa using h);unfold putA;rw[show (a++c::d).toArray.setIfInBounds a.length v=(a++[v]++d).toArray by simp];rw[lA,List.length_singleton]at f;rw[f];simp
theorem zcE{W:Z}{b:Nat}{cs:List I}{T:TypeId}{c:Nat×Nat}(a:List I)(h:W.heap[b]?=J (M cs.toArray T c))(d:cs.length=a.length):(stL W b 0 a).heap[b]?=J (M a.toArray T c):=by
 rw[zkm a 0 h];have:=zfI a cs [] d;rw[List.nil_append,List.nil_append]at this;rw[List.length_nil]at this;rw[this]
theorem zaZ{b k:Nat}(c:k≠b):∀(a:List I)(i:Nat)(W:Z),(stL W b i a).heap[k]?=W.heap[k]?
 | [],_,_=>rfl
 | _::a,i,W=>(zaZ c a (i+1) _).trans (bS _ _ _ _ c)
theorem zaW{T:TypeId}{b:Nat}:∀(a:List I)(i:Nat){W:Z},NoT T W b->KeepT T W (stL W b i a)
 | [],_,_,_=>KeepT.refl _ _
 | _::a,i,_,h=>(KeepT.setN (p:=⟨b,i,Y⟩) (KeepT.refl _ _) h _).trans (zaW a (i+1) (h.set _ _))
theorem zco{w:Z}{b:Nat}(c:w.heap.size<=b):∀(a:List I)(i:Nat){W:Z},Ext w W->Ext w (stL W b i a)
 | [],_,_,h=>h
 | _::a,i,_,h=>zco c a (i+1) (Ext.set (p:=⟨b,i,Y⟩) h c _)
theorem zky{W:Z}{b c:Nat}{l k:TypeId}{o m:Nat×Nat}{cs ds:List I}(a d:List I)(q:W.heap[b]?=J (M cs.toArray l o))(y:W.heap[c]?=J (M ds.toArray k m))(i:c≠b)(u:cs.length=a.length)(w:ds.length=d.length) :
  (stL (stL W b 0 a) c 0 d).heap[b]?=J (M a.toArray l o)/\(stL (stL W b 0 a) c 0 d).heap[c]?=J (M d.toArray k m)/\(∀j,j≠b->j≠c->(stL (stL W b 0 a) c 0 d).heap[j]?=W.heap[j]?) /\
   (∀T,T≠l->T≠k->KeepT T W (stL (stL W b 0 a) c 0 d))/\∀v:Z,Ext v W->v.heap.size<=b->v.heap.size<=c->Ext v (stL (stL W b 0 a) c 0 d):=by
 have s:=zcE a q u;have p:(stL W b 0 a).heap[c]?=J (M ds.toArray k m):=(zaZ i a 0 W).trans y;refine⟨(zaZ (fun e=>i e.symm) d 0 _).trans s,zcE d p w,fun j f g=>(zaZ g d 0 _).trans (zaZ f a 0 W),fun T f g=>(zaW a 0 ?_).trans (zaW d 0 ?_),fun v f g t=>zco t d 0 (zco g a 0 f)⟩
 ·intro x r h
  rw[q]at h
  cases h
  exact f rfl
 ·intro x r h
  rw[p]at h
  cases h
  exact g rfl
end
section
open Go.RowKit Go.Shelf
attribute [local go_sem] Oper.semAt_some
theorem zko{P:Program}{T t:TypeId}{w:Z}{base:Nat}{v sl:I}{xs l:List Int}{ops:Array Oper}{o:Oper}{a:Act}{K:Act->Z->Prop}{Q:Exit->Act->Z->Prop}{E:Prop}
  (d:(P.info? T).map (fun i=>(i.zero,i.size,i.bytes))=J (J (X C 0),1,8))(u:P.underlying t=J (.slice T))(k:o.guard=Y)(s x:Operand)
  (q:o.op = .call { callee:=.builtin .append,args:=#[s,x],argTypes:=#[t,t] })(r:a.eval s=v)(f:Own T w base v xs)
  (z:a.eval x=sl)(j:Ints T w sl l)(e:xs.length+l.length<=1000000000000)(c:base<=w.heap.size)
  (h:∀v' w',Own T w' base v' (xs++l)->Below base w w'->K (a.put o.dst v') w') :
  if Region.wanted o (yielded ops a.tmps)=true then Oper.wp P o a w K Q else E:=by
 have y:Region.wanted o (yielded ops a.tmps)=true:=by simp[Region.wanted,k]
 rw[if_pos y];obtain⟨v',w',g,m,p,D⟩:=ze1 (P:=P) o.type d u f j e c;unfold Oper.wp;simp[execOp,q,resolve,invoke,builtin,r,z,g,Result.andThen];exact h v' w' m p
theorem znn(w:Z)(T:TypeId)(x:Int):Own T (w.alloc (M #[X C x] T)) w.heap.size (O (J ⟨w.heap.size,0,Y⟩) 1 1) [x]:=
 ⟨by simp,.inr ⟨w.heap.size,1,_,by simp,nE _,aN w _,by simp,by unfold maxLen;omega,by simp,by simp[lits]⟩⟩
theorem OwnN.open{w:Z}{base:Nat}{s n:Int}{a:Option H}{m c:Nat}(h:OwnN w base (G #[X C s,O a m c]) n):∃ds,ds.length=m/\Own 3 w base (O a m c) ds/\Can C4 ds/\dv C4 ds=(n.natAbs:Int):=by
 obtain⟨sl,ds,e,d,f,g⟩:=h
 cases e
 exact⟨ds,d.len.symm,d,f,g⟩
def OB(W:Z)(base b:Nat)(n:Int):Prop:=∃s a m c,W.heap[b]?=J (M #[X C s,O a m c] 66 (0,0))/\OwnN W base (G #[X C s,O a m c]) n
section
variable {W W':Z} {b base:Nat} {n n':Int}
theorem OB.nb(h:OB W base b n):NB W b n:=by obtain⟨s,a,m,c,d,e⟩:=h;exact⟨s,a,m,c,d,e.isN⟩
theorem OB.ext(h:OB W base b n)(k:Ext W W'):OB W' base b n:=by obtain⟨s,a,m,c,d,e⟩:=h;exact⟨s,a,m,c,k.heapS d,e.ext k⟩
theorem OB.put{s:Int}{a:Option H}{m c:Nat}(h:NB W b n)(f:OwnN W base (G #[X C s,O a m c]) n'):OB ((W.setCell ⟨b,0,Y⟩ (X C s)).setCell ⟨b,1,Y⟩ (O a m c)) base b n':=by
 have d:=h.not;obtain⟨l,g,k,i,e,j⟩:=h;exact⟨s,a,m,c,zaj e _ _,f.keep (((KeepT.refl _ W).setN d _).setN (d.set _ _) _)⟩
theorem OB.setRow{g i:Nat}(h:OB W base b n)(r:g≠b)(t:g<base)(u:I):OB (W.setCell ⟨g,i,Y⟩ u) base b n:=by
 obtain⟨s,a,m,c,o,q⟩:=h;refine⟨s,a,m,c,(bS _ _ _ _ (fun e=>r e.symm)).trans o,?_⟩;obtain⟨sl,f,j,d,k,l⟩:=q
 cases j
 exact⟨_,f,rfl,d.setOther (p:=⟨g,i,Y⟩) (fun e=>by have:=(World.ownsRow.lt d g e).1;omega) _,k,l⟩
theorem OB.drew(h:OB W base b n):OB W.drew base b n:=h
end
structure QuS (W0:Z) (m:Nat) (xs:List Int) (D:Int) (g7 g8:Nat) (z8:Array I) (j:Int) (qs:List Int) (R:Int) (W:Z):Prop where
 j0 : -1<=j
 j1:j<m
 ql:qs.length=m
 row:Own 3 W W0.heap.size (O (J ⟨W0.heap.size,0,Y⟩) m m) qs
 qd:Dig C4 qs
 rest:OB W (W0.heap.size+1) g7 R
 size:W.heap[g8]?=J (M z8 66 (0,0))
 val:dv C4 (xs.drop (j+1).toNat)=dv C4 (qs.drop (j+1).toNat)*D+R
 r0:0<=R
 r1:R<D
 ext:Ext W0 W
def QuO(W0:Z)(m:Nat)(xs:List Int)(D:Int)(a c:Nat)(d:Array I)(t9:I)(W:Z):Prop:=
 ∃j qs R,t9=X C j/\QuS W0 m xs D a c d j qs R W
def QuI(d:Z)(D R:Int)(a c:I)(W:Z):Prop:=
 ∃lo hi:Int,a=X C lo/\c=X C hi/\0<=lo/\lo<hi/\hi<=10000/\D*lo<=R/\R<D*hi/\Ext d W
def QuT(W0:Z)(c d:Nat)(e:Array I)(N R:Int)(a:I)(W:Z):Prop:=
 ∃g13,a = .pointer (J ⟨g13,0,Y⟩)/\c<g13/\d<g13/\NB W g13 N/\NB W c R/\W.heap[d]?=J (M e 66 (0,0))/\Ext W0 W
theorem zoc{k:Nat}{D x:Int}(h:Lm k D)(c:0<=D)(d:0<=x)(a:x<=D*10000):Lm (k+1) x:=by
 have e:B ^ (k+1)=B ^ k*16777216:=by rw[Int.pow_succ];rfl
 have p:=zap zbt k;unfold Lm at *;rw[e];omega
theorem zoq{Q D R n:Int}(h:n=Q*D+R)(c:0<D)(d:0<=R)(a:0<=Q):Q<=n:=by
 have:Q*1<=Q*D:=Int.mul_le_mul_of_nonneg_left oM a;omega
end
section
open Go.RowKit Go.Shelf Go.Sort Go.Lib
theorem Rb.gap{s:Sp}{x:Rat}(a:Rb 1 x)(h:SpOk s):Rb 23 (gapR s x):=by
 unfold gapR;exact Rb.sub (k:=11) (a.atR h.1) (a.atR h.2.1)
theorem zat{k:Nat}{q:Rat}(h:Rb k q)(a:k<=1000000):Rb limR q:=h.mono a
theorem zmf(w:Z)(s:Sp)(d e f:I)(x:Rat)(g:IsPts w d s.over)(i:IsPts w e s.under)(a:SpOk s)(j:IsR w f x)(c:Rb 1 x) :
  Calls Tryz.prog 133 #[spc s d e,f] w (RetR w (gapR s x)):=
 zm0 w s d e f x g i a.1 a.2.1 j (c.mono oM) (zat (c.atR a.1) oM) (zat (c.atR a.2.1) oM)
theorem zas{s:Sp}(h:SpOk s):∀q∈stopsR s,Rb 1 q:=by
 intro q a;obtain⟨z,c,rfl⟩:=List.mem_map.1 a;exact zaC (zfR h z c)
def bestStep(f:Rat->Rat)(o:Rat×Rat)(x:Rat):Rat×Rat:=if rcmp (f x) o.2<0 then (x,f x)else o
def bestR(f:Rat->Rat):List Rat->Rat×Rat
 | []=>(0,0)
 | x::xs=>xs.foldl (bestStep f) (x,f x)
theorem zhK(f:Rat->Rat)(xs:List Rat)(x:Rat)(h:xs≠[]):bestR f (xs++[x])=bestStep f (bestR f xs) x:=by
 cases xs with
 | nil=>exact absurd rfl h
 | cons y a=>simp[bestR]
theorem zaM(f:Rat->Rat){xs:List Rat}(h:xs≠[]):(bestR f xs).1∈xs/\(bestR f xs).2=f (bestR f xs).1:=by
 cases xs with
 | nil=>exact absurd rfl h
 | cons x xs =>
  have:∀(c:List Rat)(a:Rat×Rat),a.2=f a.1->(c.foldl (bestStep f) a).2=f (c.foldl (bestStep f) a).1/\((c.foldl (bestStep f) a).1=a.1\/(c.foldl (bestStep f) a).1∈c):=by
   intro c
   induction c with
   | nil=>intro a h;exact⟨h,.inl rfl⟩
   | cons y c k =>
    intro a i;rw[List.foldl_cons];have j:(bestStep f a y).2=f (bestStep f a y).1:=by unfold bestStep;split<;>first|rfl|exact i
    obtain⟨d,g⟩:=k _ j;refine⟨d,?_⟩
    rcases g with e|e
    ·rw[e]
     unfold bestStep
     split
     ·exact .inr sM
     ·exact .inl rfl
    ·exact .inr (mC _ e)
  obtain⟨d,g⟩:=this xs (x,f x) rfl;refine⟨?_,d⟩
  rcases g with e|e
  ·show (xs.foldl (bestStep f) (x,f x)).1∈_;rw[e];simp
  ·exact mC _ e
def RetR2(w:Z)(p q:Rat)(e:Ending)(w':Z):Prop:=∃r s,e = .returned (.tuple #[r,s])/\IsR w' r p/\IsR w' s q/\Ext w w'
theorem CellL.set3d{L:List (H×I)}{W:Z}{b:Nat}(h:CellL L W.drew)(a:∀q∈L,b≠q.1.block)(u v t:I):CellL L (((W.setCell ⟨b,0,Y⟩ u).setCell ⟨b,1,Y⟩ v).setCell ⟨b,2,Y⟩ t).drew:=
 CellL.set3 h a u v t
theorem RB.put3{W W':Z}{d:Nat}{p x:Rat}{a i:Option H}{m c j c2:Nat}{s:Bool}(h:RB W d x)(v:IsR W (G #[O a m c,F s,O i j c2]) p)
  (f:((W.setCell ⟨d,0,Y⟩ (O a m c)).setCell ⟨d,1,Y⟩ (F s)).setCell ⟨d,2,Y⟩ (O i j c2)=W'):RB W' d p/\(∀b r,b≠d->RB W b r->RB W' b r)/\KeepT 2 W W'/\W'.heap.size=W.heap.size/\(∀w:Z,Ext w W->w.heap.size<=d->Ext w W'):=by
 have e:=h.not;have u:=h.put v;rw[f]at u;refine⟨u,fun b r l k=>?_,?_,?_,fun w k o=>?_⟩
 ·have q:=k.other (p:=⟨d,0,Y⟩) (Ne.symm l) e (O a m c)
  have t:=q.other (p:=⟨d,1,Y⟩) (Ne.symm l) (e.set _ _) (F s);have g:=t.other (p:=⟨d,2,Y⟩) (Ne.symm l) ((e.set _ _).set _ _) (O i j c2);rw[f]at g;exact g
 ·have q:=(KeepT.refl 2 W).setN (p:=⟨d,0,Y⟩) e (O a m c)
  have t:=q.setN (p:=⟨d,1,Y⟩) (e.set _ _) (F s);have g:=t.setN (p:=⟨d,2,Y⟩) ((e.set _ _).set _ _) (O i j c2);rw[f]at g;exact g
 ·rw[<-f];simp
 ·rw[<-f];exact((k.set o _).set o _).set o _
theorem RB.copy2{W D g:Z}{d f:Nat}{p q p' q':Rat}{a i e P:Option H}{m c R c2 n k T Q:Nat}{s t:Bool}(h1:RB W d p')(h2:RB W f q')(j:d≠f)
  (y:IsR W (G #[O a m c,F s,O i R c2]) p)(z:IsR W (G #[O e n k,F t,O P T Q]) q)
  (l:((W.setCell ⟨d,0,Y⟩ (O a m c)).setCell ⟨d,1,Y⟩ (F s)).setCell ⟨d,2,Y⟩ (O i R c2)=D)
  (o:((D.setCell ⟨f,0,Y⟩ (O e n k)).setCell ⟨f,1,Y⟩ (F t)).setCell ⟨f,2,Y⟩ (O P T Q)=g) :
  RB g d p/\RB g f q/\(∀b r,b≠d->b≠f->RB W b r->RB g b r)/\KeepT 2 W g/\g.heap.size=W.heap.size/\(∀w:Z,Ext w W->w.heap.size<=d->w.heap.size<=f->Ext w g):=by
 obtain⟨a1,i,K,a4,a5⟩:=h1.put3 y l;obtain⟨b1,L,b3,b4,b5⟩:=(i _ _ (Ne.symm j) h2).put3 (z.keep K) o;exact⟨L _ _ j a1,b1,fun b r hb u h=>L _ _ u (i _ _ hb h),K.trans b3,b4.trans a4,fun w k v x=>b5 w (a5 w k v) x⟩
def BeS(w:Z)(f:Rat->Rat)(a:List Rat)(g:Nat)(c:I)(W:Z):Prop:=
 ∃i:Nat,i<=a.length/\c=X C i/\g=a.length-i/\Ext w W/\RB W w.heap.size 0/\RB W (w.heap.size+1) 0/\RB W (w.heap.size+1+1) (bestR f (a.take i)).1/\RB W (w.heap.size+1+1+1) (bestR f (a.take i)).2
theorem zkS(w:Z)(v v1 v2:I)(s:Sp)(Q:List Rat)(hs:IsRs w v Q)(h1:IsPts w v1 s.over)(h2:IsPts w v2 s.under)(an:SpOk s)(T:∀q∈Q,Rb 1 q) :
  Calls Tryz.prog 113 #[v,.func (.func 133) #[spc s v1 v2] #[]] w (RetR2 w (bestR (gapR s) Q).1 (bestR (gapR s) Q).2):=by
 obtain⟨a,c,rfl⟩:=hs.form;obtain⟨n,hn⟩:=gX Q.length;rw[hn]at hs ⊢;have aM:=hs.le;unfold maxLen at aM;have Hn:=hd9 hn;have Hq:=hd9 T;have ay:=hd9 an;have aV:n<=9223372036854775807:=oM
 have HG:=hd9 (fun(W:Z)(hW:Ext w W)(vx:I)(x:Rat)(hx:IsR W vx x)(hb:Rb 1 x)=>zmf W s v1 v2 vx x (h1.ext' hW) (h2.ext' hW) an hx hb);obtain⟨sv,aO⟩:=gX (spc s v1 v2);rw[aO]at HG ⊢;obtain⟨R,hR⟩:=gX (RetR2 w (bestR (gapR s) Q).1 (bestR (gapR s) Q).2);rw[hR];have HR:=hd9 hR;clear hn T aM aO an hR;go_enter Tryz.func113,Tryz.ntmps113;go_wp2
 go_loopg [13] n (BeS w (gapR s) Q)
 case atStart =>
  have z:∀W,IsR W (G #[O Y 0 0,F false,O Y 0 0]) 0:=fun W=>IsR.zero _
  exact⟨0,by omega,rfl,by rw[Hn.out];rfl,eA,(RB.new (z w) rfl).ext ((((eR _).alloc _).alloc _).alloc _),(RB.new (z _) sM).ext (((eR _).alloc _).alloc _),(RB.new (z _) sM).ext ((eR _).alloc _),RB.new (z _) sM⟩
 case round =>
  obtain⟨i,hi,rfl,rfl,hx,hA,hB,hC,hD⟩:=hrel;rw[Hn.out]at hi;have Hx:=hd9 hx;have HA:=hd9 hA;have HB:=hd9 hB;have HC:=hd9 hC;have HD:=hd9 hD
  by_cases aS:i<n
  ·obtain⟨x,al⟩:∃x,Q[i]?=J x:=⟨Q[i]'(by rw[Hn.out];omega),by simp[Hn.out,aS]⟩
   obtain⟨b,o,a3,m3,c3,s3,a4,m4,c4,rfl,aU,ae,e0,e1,e2⟩:=(hs.ext' hx).at' al;have az:=hd9 al;have aJ:=Hq.out x (lM al);have ai:=hd9 aJ;clear al hA hB hC hx aJ;obtain⟨d1,dm,dc,ds,d2,aH,aD,aA,aB,aC,aE,aF,aG,zD,am⟩:=hD.rd
   by_cases h0:i=0
   ·have aQ:((i:Int)==0)=true:=by simp;omega
    have H0:=hd9 h0;clear h0 hD
    go_wp2_with(((go_at_call 133;(with_reducible refine(HG.out _ ?_ (G #[O a3 m3 c3,F s3,O a4 m4 c4]) x ?_ ai.out).mono ?_);(refine Ext.trans Hx.out ?_;exact eA);(refine ae.ext ?_;exact eA);rintro e w1 ⟨r1,rfl,L,f⟩;obtain⟨b1,n1,k1,t1,b2,n2,k2,rfl⟩:=L.form;obtain⟨aj,ak⟩:=f.cells;(have z1:wr.heap.size<w1.heap.size:=(by have:=f.size;simp only[wZ]at this;omega)))))
    obtain⟨W8,ag⟩:=gX ((w1.alloc (M #[O b1 n1 k1,F t1,O b2 n2 k2] 63)));have d:Ext wr W8:=by rw[<-ag];exact(((eR _).alloc _).trans f).alloc _
    have g1:RB W8 wr.heap.size x:=by rw[<-ag];exact((RB.new ae rfl).ext f).ext ((eR _).alloc _)
    have g2:RB W8 w1.heap.size (gapR s x):=by rw[<-ag];exact RB.new L rfl
    have g3:=HC.out.ext d;have g4:=HD.out.ext d;have zW:=d.size;obtain⟨s1,ah⟩:=gX w1.heap.size;rw[ag];simp only[ah]at *;clear ag aj ak L f am aA aB aC aE aF aG ah e0 e1 e2 ae;obtain⟨pa,pm,l,ps,j,p,m,p0,p1,p2,_,_,_,pz,hp⟩:=(g1).rd;obtain⟨qa,qm,qc,y,r,u,t,q0,q1,q2,_,_,_,qz,af⟩:=(g2).rd;obtain⟨_,_,_,_,_,_,_,x0,x1,x2,ao,ap,aq,xz,_⟩:=(g3).rd;obtain⟨_,_,_,_,_,_,_,y0,y1,y2,ar,au,av,yz,_⟩:=(g4).rd;refine wp_region_held_drew (S:=CellL [(⟨wr.heap.size,0,Y⟩,O pa pm l),(⟨wr.heap.size,1,Y⟩,F ps),(⟨wr.heap.size,2,Y⟩,O j p m),(⟨s1,0,Y⟩,O qa qm qc),(⟨s1,1,Y⟩,F y),(⟨s1,2,Y⟩,O r u t)]) kM cA (fun g=>?_);refine sN 0 ?_
    iterate 2
     refine tkn ?_
    refine oN ?_
    have aa:∀q∈[((⟨wr.heap.size,0,Y⟩:H),Value.slice pa pm l),(⟨wr.heap.size,1,Y⟩,F ps),(⟨wr.heap.size,2,Y⟩,O j p m),(⟨s1,0,Y⟩,O qa qm qc),(⟨s1,1,Y⟩,F y),(⟨s1,2,Y⟩,O r u t)],w.heap.size+1+1≠q.1.block:=by
     intro q T;simp at T
     rcases T with rfl|rfl|rfl|rfl|rfl|rfl<;>(dsimp only;omega)
    have ab:∀q∈[((⟨wr.heap.size,0,Y⟩:H),Value.slice pa pm l),(⟨wr.heap.size,1,Y⟩,F ps),(⟨wr.heap.size,2,Y⟩,O j p m),(⟨s1,0,Y⟩,O qa qm qc),(⟨s1,1,Y⟩,F y),(⟨s1,2,Y⟩,O r u t)],w.heap.size+1+1+1≠q.1.block:=by
     intro q T;simp at T
     rcases T with rfl|rfl|rfl|rfl|rfl|rfl<;>(dsimp only;omega)
    refine cl1 (i:=2) fun K hK=>?_
    go_simp;refine kO hK (CellL.set3d g aa _ _ _) (fun g=>?_);clear hK K;refine cl1 (i:=3) fun K hK=>?_
    go_simp;refine kO hK (CellL.set3d g ab _ _ _) (fun g=>?_);clear hK K;refine wpAnyH_done kM ?_ _
    have e:bestR (gapR s) (Q.take (i+1))=(x,gapR s x):=by
     have:=H0.out;subst this;rw[zab _ _ _ az.out];simp[bestR]
    have E:=hd9 e;have ad:=hd9 d;have P:=hd9 (RB.copy2 g3 g4 oM hp af rfl rfl);clear e d g1 g2 g3 g4;go_wp2
    go_roundg (n-(i+1))
    case measure=>have:=Hn.out;omega
    case rel =>
     obtain⟨P1,P2,P3,P4,P5,P6⟩:=P.out;have D:=fun W=>(eR W).drew
     exact⟨i+1,by rw[Hn.out];omega,by go_num,by rw[Hn.out],(P6 w (Hx.out.trans ad.out) oM oM).drew,
      (P3 _ _ oM oM (HA.out.ext ad.out)).ext (D _),(P3 _ _ oM oM (HB.out.ext ad.out)).ext (D _),by rw[E.out];exact P1.ext (D _),by rw[E.out];exact P2.ext (D _)⟩
   ·have aQ:((i:Int)==0)=false:=by simp;omega
    have H0:=hd9 h0;clear h0 hD
    have aI:Rb 23 (bestR (gapR s) (Q.take i)).2:=by
     have aT:Q.take i≠[]:=fun h=>by
      have h2:(Q.take i).length=0:=by rw[h];rfl
      rw[List.length_take,Hn.out]at h2;have:=H0.out;omega
     obtain⟨j1,j2⟩:=zaM (gapR s) aT;rw[j2];exact Rb.gap (Hq.out _ (List.mem_of_mem_take j1)) ay.out
    have aP:=hd9 aI;clear aI
    have e:bestR (gapR s) (Q.take (i+1))=bestStep (gapR s) (bestR (gapR s) (Q.take i)) x:=by
     rw[zab _ _ _ az.out,zhK];intro h;have h2:(Q.take i).length=0:=by rw[h];rfl
     rw[List.length_take,Hn.out]at h2;have:=H0.out;omega
    have E:=hd9 e;clear e;obtain⟨k,hk⟩:=gX (rcmp (gapR s x) (bestR (gapR s) (Q.take i)).2);have Hk:=hd9 hk;have aw:=hd9 (zat (Rb.gap ai.out ay.out) oM);have ax:=hd9 (zat aP.out oM);clear hk;have aW:w.heap.size+1+1+1<wr.heap.size+1:=oM
    by_cases aR:k<0
    ·go_wp2_with(first|(go_at_call 133;(with_reducible refine(HG.out _ ?_ (G #[O a3 m3 c3,F s3,O a4 m4 c4]) x ?_ ai.out).mono ?_);(refine Ext.trans Hx.out ?_;exact eA);(refine ae.ext ?_;exact eA);rintro e w1 ⟨r1,rfl,L,f⟩;obtain⟨b1,n1,k1,t1,b2,n2,k2,rfl⟩:=L.form;obtain⟨aj,ak⟩:=f.cells;(have z1:wr.heap.size<w1.heap.size:=(by have:=f.size;simp only[wZ]at this;omega));(have z2:w.heap.size+1+1+1<w1.heap.size:=oM))|(go_at_call 75;(with_reducible refine(zaE _ (G #[O b1 n1 k1,F t1,O b2 n2 k2]) (G #[O d1 dm dc,F ds,O d2 aH aD]) _ _ (L.ext ?_) (am.ext ?_) aw.out ax.out).mono ?_);exact eA;exact eA;rintro e w3 ⟨rfl,ac⟩;(try rw[Hk.out]);obtain⟨aK,aL⟩:=ac.cells))
     have d:Ext wr w3:=((((eR _).alloc _).trans f).alloc _).trans ac;have g1:RB w3 wr.heap.size x:=(((RB.new ae rfl).ext f).ext ((eR _).alloc _)).ext ac;have g2:RB w3 w1.heap.size (gapR s x):=(RB.new L rfl).ext ac;have g3:=HC.out.ext d;have g4:=HD.out.ext d;have zW:=d.size;obtain⟨s1,ah⟩:=gX w1.heap.size;simp only[ah]at *;clear aj ak L f ac aK aL am aA aB aC aE aF aG ah e0 e1 e2 ae;obtain⟨pa,pm,l,ps,j,p,m,p0,p1,p2,_,_,_,pz,hp⟩:=(g1).rd;obtain⟨qa,qm,qc,y,r,u,t,q0,q1,q2,_,_,_,qz,af⟩:=(g2).rd;obtain⟨_,_,_,_,_,_,_,x0,x1,x2,ao,ap,aq,xz,_⟩:=(g3).rd;obtain⟨_,_,_,_,_,_,_,y0,y1,y2,ar,au,av,yz,_⟩:=(g4).rd;refine wp_region_held_drew (S:=CellL [(⟨wr.heap.size,0,Y⟩,O pa pm l),(⟨wr.heap.size,1,Y⟩,F ps),(⟨wr.heap.size,2,Y⟩,O j p m),(⟨s1,0,Y⟩,O qa qm qc),(⟨s1,1,Y⟩,F y),(⟨s1,2,Y⟩,O r u t)]) kM cA (fun g=>?_);refine sN 0 ?_
     iterate 2
      refine tkn ?_
     refine oN ?_
     have aa:∀q∈[((⟨wr.heap.size,0,Y⟩:H),Value.slice pa pm l),(⟨wr.heap.size,1,Y⟩,F ps),(⟨wr.heap.size,2,Y⟩,O j p m),(⟨s1,0,Y⟩,O qa qm qc),(⟨s1,1,Y⟩,F y),(⟨s1,2,Y⟩,O r u t)],w.heap.size+1+1≠q.1.block:=by
      intro q T;simp at T
      rcases T with rfl|rfl|rfl|rfl|rfl|rfl<;>(dsimp only;omega)
     have ab:∀q∈[((⟨wr.heap.size,0,Y⟩:H),Value.slice pa pm l),(⟨wr.heap.size,1,Y⟩,F ps),(⟨wr.heap.size,2,Y⟩,O j p m),(⟨s1,0,Y⟩,O qa qm qc),(⟨s1,1,Y⟩,F y),(⟨s1,2,Y⟩,O r u t)],w.heap.size+1+1+1≠q.1.block:=by
      intro q T;simp at T
      rcases T with rfl|rfl|rfl|rfl|rfl|rfl<;>(dsimp only;omega)
     refine cl1 (i:=2) fun K hK=>?_
     go_simp;refine kO hK (CellL.set3d g aa _ _ _) (fun g=>?_);clear hK K;refine cl1 (i:=3) fun K hK=>?_
     go_simp;refine kO hK (CellL.set3d g ab _ _ _) (fun g=>?_);clear hK K;refine wpAnyH_done kM ?_ _;have e:bestStep (gapR s) (bestR (gapR s) (Q.take i)) x=(x,gapR s x):=by unfold bestStep;rw[Hk.out,if_pos aR]
     have E':=hd9 (E.out.trans e);have ad:=hd9 d;have P:=hd9 (RB.copy2 g3 g4 oM hp af rfl rfl);clear e d g1 g2 g3 g4;go_wp2
     go_roundg (n-(i+1))
     case measure=>have:=Hn.out;omega
     case rel =>
      obtain⟨P1,P2,P3,P4,P5,P6⟩:=P.out;have D:=fun W=>(eR W).drew
      exact⟨i+1,by rw[Hn.out];omega,by go_num,by rw[Hn.out],(P6 w (Hx.out.trans ad.out) oM oM).drew,
       (P3 _ _ oM oM (HA.out.ext ad.out)).ext (D _),(P3 _ _ oM oM (HB.out.ext ad.out)).ext (D _),by rw[E'.out];exact P1.ext (D _),by rw[E'.out];exact P2.ext (D _)⟩
    ·go_wp2_with(first|(go_at_call 133;(with_reducible refine(HG.out _ ?_ (G #[O a3 m3 c3,F s3,O a4 m4 c4]) x ?_ ai.out).mono ?_);(refine Ext.trans Hx.out ?_;exact eA);(refine ae.ext ?_;exact eA);rintro e w1 ⟨r1,rfl,L,f⟩;obtain⟨b1,n1,k1,t1,b2,n2,k2,rfl⟩:=L.form;obtain⟨aj,ak⟩:=f.cells;(have z1:wr.heap.size<w1.heap.size:=(by have:=f.size;simp only[wZ]at this;omega));(have z2:w.heap.size+1+1+1<w1.heap.size:=oM))|(go_at_call 75;(with_reducible refine(zaE _ (G #[O b1 n1 k1,F t1,O b2 n2 k2]) (G #[O d1 dm dc,F ds,O d2 aH aD]) _ _ (L.ext ?_) (am.ext ?_) aw.out ax.out).mono ?_);exact eA;exact eA;rintro e w3 ⟨rfl,ac⟩;(try rw[Hk.out]);obtain⟨aK,aL⟩:=ac.cells))
     have d:Ext wr w3:=((((eR _).alloc _).trans f).alloc _).trans ac;have e:bestStep (gapR s) (bestR (gapR s) (Q.take i)) x=bestR (gapR s) (Q.take i):=by unfold bestStep;rw[Hk.out,if_neg oM]
     have E':=hd9 (E.out.trans e)
     go_roundg (n-(i+1))
     case measure=>have:=Hn.out;omega
     case rel=>exact⟨i+1,by rw[Hn.out];omega,by go_num,by rw[Hn.out],Hx.out.trans d,HA.out.ext d,HB.out.ext d,by rw[E'.out];exact HC.out.ext d,by rw[E'.out];exact HD.out.ext d⟩
  ·obtain rfl:i=n:=oM
   have e:Q.take i=Q:=lT (by rw[Hn.out];exact nE _);rw[e]at hC hD HC HD;clear e;have zW:=hx.size;have zD:w.heap.size+1+1+1<wr.heap.size:=by obtain⟨_,_,_,_,_,_,_,_,_,_,_,_,_,z,_⟩:=hD.rd;exact z
   go_wp2;obtain⟨pa,pm,l,ps,j,p,m,p0,p1,p2,_,_,_,pz,hp⟩:=(hC).rd;obtain⟨qa,qm,qc,y,r,u,t,q0,q1,q2,_,_,_,qz,af⟩:=(hD).rd;obtain⟨_,_,_,_,_,_,_,x0,x1,x2,ao,ap,aq,xz,_⟩:=(hA).rd;obtain⟨_,_,_,_,_,_,_,y0,y1,y2,ar,au,av,yz,_⟩:=(hB).rd;refine wp_region_held_drew (S:=CellL [(⟨w.heap.size+1+1,0,Y⟩,O pa pm l),(⟨w.heap.size+1+1,1,Y⟩,F ps),(⟨w.heap.size+1+1,2,Y⟩,O j p m),(⟨w.heap.size+1+1+1,0,Y⟩,O qa qm qc),(⟨w.heap.size+1+1+1,1,Y⟩,F y),(⟨w.heap.size+1+1+1,2,Y⟩,O r u t)]) kM cA (fun g=>?_);refine sN 0 ?_
   iterate 2
    refine tkn ?_
   refine oN ?_
   have aa:∀q∈[((⟨w.heap.size+1+1,0,Y⟩:H),Value.slice pa pm l),(⟨w.heap.size+1+1,1,Y⟩,F ps),(⟨w.heap.size+1+1,2,Y⟩,O j p m),(⟨w.heap.size+1+1+1,0,Y⟩,O qa qm qc),(⟨w.heap.size+1+1+1,1,Y⟩,F y),(⟨w.heap.size+1+1+1,2,Y⟩,O r u t)],w.heap.size≠q.1.block:=by
    intro q T;simp at T
    rcases T with rfl|rfl|rfl|rfl|rfl|rfl<;>(dsimp only;omega)
   have ab:∀q∈[((⟨w.heap.size+1+1,0,Y⟩:H),Value.slice pa pm l),(⟨w.heap.size+1+1,1,Y⟩,F ps),(⟨w.heap.size+1+1,2,Y⟩,O j p m),(⟨w.heap.size+1+1+1,0,Y⟩,O qa qm qc),(⟨w.heap.size+1+1+1,1,Y⟩,F y),(⟨w.heap.size+1+1+1,2,Y⟩,O r u t)],w.heap.size+1≠q.1.block:=by
    intro q T;simp at T
    rcases T with rfl|rfl|rfl|rfl|rfl|rfl<;>(dsimp only;omega)
   refine cl1 (i:=2) fun K hK=>?_
   go_simp;refine kO hK (CellL.set3d g aa _ _ _) (fun g=>?_);clear hK K;refine cl1 (i:=3) fun K hK=>?_
   go_simp;refine kO hK (CellL.set3d g ab _ _ _) (fun g=>?_);clear hK K;refine wpAnyH_done kM ?_ _;have P:=hd9 (RB.copy2 hA hB oM hp af rfl rfl);go_wp2;refine bR (v:=.tuple #[G #[O pa pm l,F ps,O j p m],G #[O qa qm qc,F y,O r u t]]) (by simp[results,Tryz.results113,go_sem,x0,x1,x2,ao,ap,aq,y0,y1,y2,ar,au,av]) rfl ?_;rw[<-HR.out];obtain⟨P1,P2,P3,P4,P5,P6⟩:=P.out;exact⟨_,_,rfl,(hp.keep P4).ext (eR _).drew,(af.keep P4).ext (eR _).drew,(P6 w Hx.out oM oM).drew⟩
end
end Go.Proofs.YtjnjpagegkcgfaaGreatDoor.Cop
