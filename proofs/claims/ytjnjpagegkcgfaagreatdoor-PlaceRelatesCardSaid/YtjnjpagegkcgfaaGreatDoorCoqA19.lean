import Derived.Test.YtjnjpagegkcgfaaGreatDoorCoqA18
import Derived.Laws.StructEq
set_option maxRecDepth 1000000
set_option maxHeartbeats 16000000
set_option linter.all false
open Go.Value renaming slice->O,pointer->X,bool->I,agg->M,int->C
open Option renaming none->Y,some->V
open Go renaming World->Z,Value->J,Addr->N
namespace Go.Proofs.YtjnjpagegkcgfaaGreatDoor.Cop
section
open Go.RowKit Go.Shelf Go.Lib
attribute [local go_sem] Oper.semAt_some
def Rb.fold2{k way x y}(a:Rb k x)(b:Rb k y):Rb k (Sc way [x,y]):=by
 show Rb k (Ed way x y);unfold Ed;split
 ·exact b
 ·exact a
def XH w vx v1 v2 p q x R b7(c6:w.cell? ⟨R,11,Y⟩=V v1)(c7:w.cell? ⟨b7,11,Y⟩=V v2)(h1:Fa w v1 (La p))(h2:Fa w v2 (La q))(k1:Wb (La p))(k2:Wb (La q))(hx:Sa w vx x)(m:Rb 300 x):Calls Tryz.prog 109 #[vx,X (V ⟨R,0,Y⟩),X (V ⟨b7,0,Y⟩)] w (Nd w (Ze p q x)):=by
 have f1:Rb 1207 (kb (La p) x):=(Rb.atG (k:=300) dM m k1).up dM;have f2:Rb 1207 (kb (La q) x):=(Rb.atG (k:=300) dM m k2).up dM;have H1:=ka (fun(W:Z)(l:Aa w W)=>Lr W _ _ (La p) x (h1.f l) k1 (hx.ext l) (m.up dM));have H2:=ka (fun(W:Z)(l:Aa w W)=>Lr W _ _ (La q) x (h2.f l) k2 (hx.ext l) (m.up dM));have HM:=ka (fun(W:Z)(v:J)(h:Sf W v [kb (La p) x,kb (La q) x])=>(show Calls Tryz.prog _ #[v] W (Nd W (Ze p q x))from qu W v _ h (fun z hz=>by
  simp only[List.mem_cons,List.not_mem_nil,or_false]at hz;rcases hz with rfl|rfl
  ·exact Ji f1 dM
  ·exact Ji f2 dM)))
 obtain⟨a1,n1,m1,rfl⟩:=Ja h1;obtain⟨a2,n2,m2,rfl⟩:=Ja h2;obtain⟨xa,xm,xc,xs,u,P,y,rfl⟩:=hx.form;obtain⟨z1,c⟩:=gX (kb (La p) x);obtain⟨z2,d⟩:=gX (kb (La q) x);obtain⟨z3,f⟩:=gX (Ze p q x);rw[c]at H1;rw[d]at H2;rw[c,d,f]at HM;rw[f];have l6:=World.block_lt_of_cell? w _ c6;have l7:=World.block_lt_of_cell? w _ c7;clear f1 f2 c d f h1 h2 k1 k2 m hx;dsimp only at l6 l7;go_in;go_wp2;refine Uc [(⟨R,11,Y⟩,O a1 n1 m1),(⟨b7,11,Y⟩,O a2 n2 m2),(⟨w.heap.size,0,Y⟩,O xa xm xc),(⟨w.heap.size,1,Y⟩,I xs),(⟨w.heap.size,2,Y⟩,O u P y)] cA fun a=>?_;refine sN 0 ?_
 iterate 3 refine Bb ?_
 refine oN ?_;refine sN 4 ?_
 iterate 3 refine Bb ?_
 refine oN ?_;refine Fb (i:=3) (H1.o _ eA) ?_;rintro e w3 ⟨r3,rfl,n,s⟩;obtain⟨a3,m3,c3,s3,b3,n3,k3,rfl⟩:=n.form;refine⟨_,rfl,(cE a s),fun a=>?_⟩;have X3:Aa w w3:=eA;refine Fb (i:=7) (H2.o _ X3) ?_;rintro e w4 ⟨r4,rfl,o,b⟩;obtain⟨a4,m4,c4,s4,b4,n4,k4,rfl⟩:=o.form;refine⟨_,rfl,(cE a b),fun a=>?_⟩;refine Vc (i:=8) fun K j=>?_;go_simp;refine kO j (cE a ((eR _).alloc _)) (fun a=>?_);clear j K;refine Fb (i:=9) (HM.o _ _ (qQ w4 rfl (n.ext b) o)) ?_;rintro e w5 ⟨r5,rfl,r,t⟩;obtain⟨a5,m5,c5,s5,b5,n5,k5,rfl⟩:=r.form;refine⟨_,rfl,(cE a t),fun a=>?_⟩;have g:Aa w3 w5:=(b.trans ((eR w4).alloc _)).trans t;have hO:RB w5 (w.heap.size+1) 0:=((RB.new (Sa.zero _) sM).ext ((eR _).drew.trans s)).ext g;obtain⟨_,_,_,_,_,_,_,o0,o1,o2,aj,ak,al,zo,_⟩:=hO.rd;have aa:∀q∈[((⟨R,11,Y⟩:N),(O a1 n1 m1:J)),(⟨b7,11,Y⟩,O a2 n2 m2),(⟨w.heap.size,0,Y⟩,O xa xm xc),(⟨w.heap.size,1,Y⟩,I xs),(⟨w.heap.size,2,Y⟩,O u P y)],w.heap.size+1≠q.1.block:=by
  simp;omega
 refine Vc (i:=10) fun K j=>?_;go_simp;refine kO j (Ea.set3 (by assumption) aa _ _ _) (fun a=>?_);clear j K;refine Sb ?_;go_wp2;have hP:=hO.put r;obtain⟨pa,pm,ad,af,ab,ae,ac,ag,ah,ai,_,_,_,_,hz⟩:=hP.rd;exact bR (v:=M #[O pa pm ad,I af,O ab ae ac]) (by simp[results,Tryz.results109,go_sem,ag,ah,ai]) rfl ⟨_,rfl,hz,(((X3.trans g).set dO _).set dO _).set dO _⟩
def ZH w vx v1 v2 p q x R b7(c6:w.cell? ⟨R,10,Y⟩=V v1)(c7:w.cell? ⟨b7,10,Y⟩=V v2)(h1:Fa w v1 (Da p))(h2:Fa w v2 (Da q))(k1:Wb (Da p))(k2:Wb (Da q))(hx:Sa w vx x)(m:Rb 300 x):Calls Tryz.prog 111 #[vx,X (V ⟨R,0,Y⟩),X (V ⟨b7,0,Y⟩)] w (Nd w (Ef p q x)):=by
 have f1:Rb 1207 (kb (Da p) x):=(Rb.atG (k:=300) dM m k1).up dM;have f2:Rb 1207 (kb (Da q) x):=(Rb.atG (k:=300) dM m k2).up dM;have H1:=ka (fun(W:Z)(l:Aa w W)=>Lr W _ _ (Da p) x (h1.f l) k1 (hx.ext l) (m.up dM));have H2:=ka (fun(W:Z)(l:Aa w W)=>Lr W _ _ (Da q) x (h2.f l) k2 (hx.ext l) (m.up dM));have HM:=ka (fun(W:Z)(v:J)(h:Sf W v [kb (Da p) x,kb (Da q) x])=>(show Calls Tryz.prog _ #[v] W (Nd W (Ef p q x))from ru W v _ h (fun z hz=>by
  simp only[List.mem_cons,List.not_mem_nil,or_false]at hz;rcases hz with rfl|rfl
  ·exact Ji f1 dM
  ·exact Ji f2 dM)))
 obtain⟨a1,n1,m1,rfl⟩:=Ja h1;obtain⟨a2,n2,m2,rfl⟩:=Ja h2;obtain⟨xa,xm,xc,xs,u,P,y,rfl⟩:=hx.form;obtain⟨z1,c⟩:=gX (kb (Da p) x);obtain⟨z2,d⟩:=gX (kb (Da q) x);obtain⟨z3,f⟩:=gX (Ef p q x);rw[c]at H1;rw[d]at H2;rw[c,d,f]at HM;rw[f];have l6:=World.block_lt_of_cell? w _ c6;have l7:=World.block_lt_of_cell? w _ c7;clear f1 f2 c d f h1 h2 k1 k2 m hx;dsimp only at l6 l7;go_in;go_wp2;refine Uc [(⟨R,10,Y⟩,O a1 n1 m1),(⟨b7,10,Y⟩,O a2 n2 m2),(⟨w.heap.size,0,Y⟩,O xa xm xc),(⟨w.heap.size,1,Y⟩,I xs),(⟨w.heap.size,2,Y⟩,O u P y)] cA fun a=>?_;refine sN 0 ?_
 iterate 3 refine Bb ?_
 refine oN ?_;refine sN 4 ?_
 iterate 3 refine Bb ?_
 refine oN ?_;refine Fb (i:=3) (H1.o _ eA) ?_;rintro e w3 ⟨r3,rfl,n,s⟩;obtain⟨a3,m3,c3,s3,b3,n3,k3,rfl⟩:=n.form;refine⟨_,rfl,(cE a s),fun a=>?_⟩;have X3:Aa w w3:=eA;refine Fb (i:=7) (H2.o _ X3) ?_;rintro e w4 ⟨r4,rfl,o,b⟩;obtain⟨a4,m4,c4,s4,b4,n4,k4,rfl⟩:=o.form;refine⟨_,rfl,(cE a b),fun a=>?_⟩;refine Vc (i:=8) fun K j=>?_;go_simp;refine kO j (cE a ((eR _).alloc _)) (fun a=>?_);clear j K;refine Fb (i:=9) (HM.o _ _ (qQ w4 rfl (n.ext b) o)) ?_;rintro e w5 ⟨r5,rfl,r,t⟩;obtain⟨a5,m5,c5,s5,b5,n5,k5,rfl⟩:=r.form;refine⟨_,rfl,(cE a t),fun a=>?_⟩;have g:Aa w3 w5:=(b.trans ((eR w4).alloc _)).trans t;have hO:RB w5 (w.heap.size+1) 0:=((RB.new (Sa.zero _) sM).ext ((eR _).drew.trans s)).ext g;obtain⟨_,_,_,_,_,_,_,o0,o1,o2,aj,ak,al,zo,_⟩:=hO.rd;have aa:∀q∈[((⟨R,10,Y⟩:N),(O a1 n1 m1:J)),(⟨b7,10,Y⟩,O a2 n2 m2),(⟨w.heap.size,0,Y⟩,O xa xm xc),(⟨w.heap.size,1,Y⟩,I xs),(⟨w.heap.size,2,Y⟩,O u P y)],w.heap.size+1≠q.1.block:=by
  simp;omega
 refine Vc (i:=10) fun K j=>?_;go_simp;refine kO j (Ea.set3 (by assumption) aa _ _ _) (fun a=>?_);clear j K;refine Sb ?_;go_wp2;have hP:=hO.put r;obtain⟨pa,pm,ad,af,ab,ae,ac,ag,ah,ai,_,_,_,_,hz⟩:=hP.rd;exact bR (v:=M #[O pa pm ad,I af,O ab ae ac]) (by simp[results,Tryz.results111,go_sem,ag,ah,ai]) rfl ⟨_,rfl,hz,(((X3.trans g).set dO _).set dO _).set dO _⟩
end
section
open Go.RowKit Go.Shelf Go.Sort
attribute [local go_sem] Oper.semAt_some
end
section
open Go.RowKit Go.Shelf Go.Sort Go.Lib
def LH{w base a n c b}(h:Pd w base (O a n c) b):n=b.length:=by obtain⟨f,d,e,_⟩:=h;rw[d.len,e]
def Tz{w base a n c o}(h:Pd w base (O a n c) o){k b}(p:o[k]?=V b):∃g a1 m1 c1 s1 b1 n1 d1 a2 m2 c2 s2 b2 n2 d2 a3 m3 c3 s3 b3 n3 d3 a4 m4 c4 s4 b4 n4 d4,a=V ⟨g,0,Y⟩/\base<=g/\g<w.heap.size/\Ea [(⟨g,k*17,Y⟩,C .i64 b.num),(⟨g,k*17+1,Y⟩,O a1 m1 c1),(⟨g,k*17+2,Y⟩,I s1),(⟨g,k*17+3,Y⟩,O b1 n1 d1),(⟨g,k*17+4,Y⟩,O a2 m2 c2),(⟨g,k*17+5,Y⟩,I s2),(⟨g,k*17+6,Y⟩,O b2 n2 d2),(⟨g,k*17+7,Y⟩,O a3 m3 c3),(⟨g,k*17+8,Y⟩,I s3),(⟨g,k*17+9,Y⟩,O b3 n3 d3),(⟨g,k*17+10,Y⟩,O a4 m4 c4),(⟨g,k*17+11,Y⟩,I s4),(⟨g,k*17+12,Y⟩,O b4 n4 d4),(⟨g,k*17+13,Y⟩,C .i64 b.d1.1),(⟨g,k*17+14,Y⟩,C .i64 b.d1.2),(⟨g,k*17+15,Y⟩,C .i64 b.d2.1),(⟨g,k*17+16,Y⟩,C .i64 b.d2.2)] w/\Sa w (M #[O a1 m1 c1,I s1,O b1 n1 d1]) b.fx/\Sa w (M #[O a2 m2 c2,I s2,O b2 n2 d2]) b.fz/\Sa w (M #[O a3 m3 c3,I s3,O b3 n3 d3]) b.tx/\Sa w (M #[O a4 m4 c4,I s4,O b4 n4 d4]) b.tz:=by
 obtain⟨q,d,K,u⟩:=h;have P:=(lS.1 p).1;obtain⟨c,i⟩:∃c,q[k]?=V c:=⟨_,gE oM⟩;obtain⟨f,t,e,⟨a1,m1,c1,s1,b1,n1,d1,a2,m2,c2,s2,b2,n2,d2,r,v,x⟩,⟨a3,m3,c3,s3,b3,n3,d3,a4,m4,c4,s4,b4,n4,d4,s,y,z⟩⟩:=u k c b i p;obtain rfl:f=[O a1 m1 c1,I s1,O b1 n1 d1,O a2 m2 c2,I s2,O b2 n2 d2]:=by
  have:=congrArg Array.toList (Value.agg.inj r);simpa using this
 obtain rfl:t=[O a3 m3 c3,I s3,O b3 n3 d3,O a4 m4 c4,I s4,O b4 n4 d4]:=by
  have:=congrArg Array.toList (Value.agg.inj s);simpa using this
 subst e;obtain⟨g,rfl,l,m⟩:=d.blk oM;refine⟨g,a1,m1,c1,s1,b1,n1,d1,a2,m2,c2,s2,b2,n2,d2,a3,m3,c3,s3,b3,n3,d3,a4,m4,c4,s4,b4,n4,d4,rfl,l,m,⟨?_,?_,?_,?_,?_,?_,?_,?_,?_,?_,?_,?_,?_,?_,?_,?_,?_,trivial⟩,v,x,y,z⟩
 ·exact d.cell (j:=0) i rfl
 ·exact d.cell (j:=1) i rfl
 ·exact d.cell (j:=2) i rfl
 ·exact d.cell (j:=3) i rfl
 ·exact d.cell (j:=4) i rfl
 ·exact d.cell (j:=5) i rfl
 ·exact d.cell (j:=6) i rfl
 ·exact d.cell (j:=7) i rfl
 ·exact d.cell (j:=8) i rfl
 ·exact d.cell (j:=9) i rfl
 ·exact d.cell (j:=10) i rfl
 ·exact d.cell (j:=11) i rfl
 ·exact d.cell (j:=12) i rfl
 ·exact d.cell (j:=13) i rfl
 ·exact d.cell (j:=14) i rfl
 ·exact d.cell (j:=15) i rfl
 ·exact d.cell (j:=16) i rfl
def iJ(w:Z)(b c:J)(d:Fa w b Jk)(e:Gf w c Qj)(a:Gw w):Calls Tryz.prog 16 #[M #[b,c],C .i64 2,C .i64 0] w (Fm w [⟨0,100,80,200,80,(1,0),(1,0)⟩,⟨1,200,80,300,80,(1,0),(1,0)⟩]):=by have h:=uJ w b c Jk Qj 2 mo 0 d e a Zw rfl rfl (Ku Zw).2.2 (Ku Zw).1 dM;rw[show Qj.length+1=4 from rfl,vJ]at h;exact h
def tM{g ps p}(h:Rh g ps p=0):Rc g ps=0/\Ca p=true/\Pe g p=true/\ps.any (Xg p.name)=false/\Ce g ps p=true:=by
 unfold Rh at h;split at h
 ·rename_i h1;exact absurd h h1
 ·rename_i h1;split at h
  ·cases h
  ·split at h
   ·cases h
   ·split at h
    ·cases h
    ·split at h
     ·cases h
     ·rename_i h2 h3 h4 h5;exact⟨by simpa using h1,by simpa using h2,by simpa using h3,by simpa using h4,by simpa using h5⟩
def ZI(w:Z)(b c v:J)(k:Fa w b Jk)(l:Gf w c Qj)(hv:Fa w v Qf)(a:Gw w):Calls Tryz.prog 10 #[M #[b,c],M (nc Tm v)] w fun e d=>e=.returned (.tuple #[C .i64 140,C .i64 0])/\Aa w d:=by
 have h:Rh Jk Qj Tm=0:=by
  unfold Rh Qj;rw[show Rc Jk [jm,im,mo]=0 from Zw,if_neg dM,if_neg (by rw[ZG];decide)];simp only[Pe,Ce,oh,List.any_cons,List.any_nil,Dc,ye,Na,Pa,Eb,Fr,Yq,vE,Qw,jB,PB,yt,ut,Lz];decide +kernel
 obtain⟨_,f,g,i,j⟩:=tM h;refine(iO w b c v Jk Qj Tm k l hv dM a Zw f g i j).mono ?_;rintro e d ⟨rfl,m⟩;rw[h,if_pos rfl,lJ];exact⟨rfl,m⟩
def GG(w:Z)(b c:J)(d:Fa w b Qf)(f:Fa w c Qf)(a:Gw w):Calls Tryz.prog 39 #[M (nc jm b),M (nc im c)] w fun e g=>e=.returned (.tuple #[C .u8 1,C .i64 0])/\Aa w g:=by have:=Pt w b c jm im d f dM dM a ⟨jH,iH⟩;rw[RG]at this;exact this
def TC{n}(h:Bd 1000 n):Rb Zb (n:Rat):=(Ml h dM).mono dM
def YI w a m c s f j c2 b n d t g k i(l:Sa w (M #[O a m c,I s,O f j c2]) 100)(o:Sa w (M #[O b n d,I t,O g k i]) 80):Calls Tryz.prog 48 #[M #[O a m c,I s,O f j c2,O b n d,I t,O g k i]] w fun e p=>e=.returned (.string ⟨#[40,49,48,48,44,32,56,48,41]⟩)/\Aa w p:=by have:=JD w _ _ 100 80 l o (TC (n:=100) (by unfold Bd;omega)) (TC (n:=80) (by unfold Bd;omega)) _ ⟨a,m,c,s,f,j,c2,b,n,d,t,g,k,i,rfl,rfl,rfl⟩;rw[uI]at this;exact this
def JK:Ck 200 80=[40,50,48,48,44,32,56,48,41]:=by decide +kernel
def QC w a m c s f j c2 b n d t g k i(l:Sa w (M #[O a m c,I s,O f j c2]) 200)(o:Sa w (M #[O b n d,I t,O g k i]) 80):Calls Tryz.prog 48 #[M #[O a m c,I s,O f j c2,O b n d,I t,O g k i]] w fun e p=>e=.returned (.string ⟨#[40,50,48,48,44,32,56,48,41]⟩)/\Aa w p:=by have:=JD w _ _ 200 80 l o (TC (n:=200) (by unfold Bd;omega)) (TC (n:=80) (by unfold Bd;omega)) _ ⟨a,m,c,s,f,j,c2,b,n,d,t,g,k,i,rfl,rfl,rfl⟩;rw[JK]at this;exact this
end
section
open Go.RowKit Go.Shelf Go.Sort
attribute [local go_sem] Oper.semAt_some
def CF(L:LP)(x a:Rat)(i:Nat):Prop:=yb x (((Qa L i).1:Int):Rat)<0\/(yb x (((Qa L i).1:Int):Rat)=0/\(i+1=L.length\/0<=yb x a))
instance (L:LP) (x rt:Rat) (i:Nat):Decidable (CF L x rt i):=by unfold CF;infer_instance
end
section
open Go.RowKit Go.Shelf Go.Sort Go.Lib
def oQ w(a:Gw w):Calls Tryz.prog 9 #[] w fun e w'=>e=.returned (I true)/\Aa w w':=by
 have al:=ka a;have HR:=ka (fun(W:Z)(n:Aa w W)(v1 v2:J)(h1:Fa W v1 Qf)(h2:Fa W v2 Qf)=>GG W v1 v2 h1 h2 (a.ext n));have HB:=ka (fun(W:Z)(n:Aa w W)(vg vp:J)(hg:Fa W vg Jk)(hp:Gf W vp Qj)=>iJ W vg vp hg hp (a.ext n));have HD:=ka (fun(W:Z)(n:Aa w W)(vg vp v:J)(hg:Fa W vg Jk)(hp:Gf W vp Qj)(hv:Fa W v Qf)=>ZI W vg vp v hg hp hv (a.ext n));unfold jm im at HR;unfold Tm at HD;have E0:=eR w;clear a;go_in;go_upto_region 2 with (first|(go_at_call 46;(with_reducible refine(Xm _ ⟨#[97]⟩ 0 0).mono ?_);rintro e w1 ⟨v1,rfl,x,K⟩;have E1:Aa w w1:=E0.trans K)|(go_at_call 46;(with_reducible refine(Xm _ ⟨#[98]⟩ 200 0).mono ?_);rintro e w2 ⟨v2,rfl,y,j⟩;have E2:Aa w w2:=E1.trans j)|(go_at_call 39;refine cM (HR.o _ E2 _ _ (x.f j) y) ?_;rintro e w3 ⟨rfl,P⟩;have E3:Aa w w3:=E2.trans P));clear K j P x y;go_upto_region 3 with (first|(go_at_call 47;(with_reducible refine(Rq _).mono ?_);rintro e w4 ⟨aD,aF,rfl,r,t,R⟩;have E4:Aa w w4:=E3.trans R)|(go_at_call 16;refine cM (HB.o _ E4 _ _ r t) ?_;rintro e w5 ⟨vb,rfl,i,aa⟩;obtain⟨ba,bn,bc,rfl⟩:=i.i;have E5:Aa w w5:=E4.trans aa));clear R aa r t;go_upto_region 4 with (first|(go_at_call 47;(with_reducible refine(Rq _).mono ?_);rintro e w6 ⟨aE,aG,rfl,s,u,l⟩;have E6:Aa w w6:=E5.trans l)|(go_at_call 46;(with_reducible refine(Xm _ ⟨#[100]⟩ 50 300).mono ?_);rintro e w7 ⟨v7,rfl,z,f⟩;have E7:Aa w w7:=E6.trans f)|(go_at_call 10;refine cM (HD.o _ E7 _ _ _ (s.f f) (u.f f) z) ?_;rintro e w8 ⟨rfl,m⟩;have E8:Aa w w8:=E7.trans m));have i:=i.ext ((l.trans f).trans m);clear l f m s u z E0 E1 E2 E3 E4 E5 E6 E7 HR HB HD;obtain rfl:=LH i;obtain⟨g,a1,m1,c1,s1,b1,n1,d1,a2,m2,c2,s2,b2,n2,d2,a3,m3,c3,s3,b3,n3,d3,a4,m4,c4,s4,b4,n4,d4,rfl,ab,am,hc,r1,r2,r3,r4⟩:=Tz i (k:=0) rfl;obtain⟨g',a5,m5,c5,s5,b5,n5,d5,a6,m6,c6,s6,b6,n6,d6,a7,m7,c7,s7,b7,n7,d7,a8,m8,c8,s8,b8,n8,d8,e,p,q,o,r5,r6,r7,r8⟩:=Tz i (k:=1) rfl;obtain rfl:g=g':=by cases e;rfl
 simp only[Ea,Nat.reduceMul,Nat.reduceAdd,and_true]at hc o;obtain⟨q0,q1,q2,q3,q4,q5,q6,q7,q8,q9,aw,ax,ay,az,aA,aB,aC⟩:=hc;obtain⟨p0,p1,p2,p3,p4,p5,p6,p7,p8,p9,an,ao,ap,aq,ar,au,av⟩:=o;clear e p q ab;have E:=ka E8;clear E8 i;go_wp2_with(first|(go_at_call 48;(with_reducible refine(YI _ _ _ _ _ _ _ _ _ _ _ _ _ _ _ (r1.ext ?_) (r2.ext ?_)).mono ?_);exact eA;exact eA;rintro e ac ⟨rfl,b⟩;obtain⟨af,ai⟩:=b.cells;(have aH:g<ac.heap.size:=by have:=b.size;omega))|(go_at_call 48;(with_reducible refine(QC _ _ _ _ _ _ _ _ _ _ _ _ _ _ _ (r3.ext ?_) (r4.ext ?_)).mono ?_);exact eA;exact eA;rintro e ad ⟨rfl,c⟩;obtain⟨ag,aj⟩:=c.cells;(have aI:g<ad.heap.size:=by have:=c.size;omega))|(go_at_call 48;(with_reducible refine(QC _ _ _ _ _ _ _ _ _ _ _ _ _ _ _ (r5.ext ?_) (r6.ext ?_)).mono ?_);exact eA;exact eA;rintro e ae ⟨rfl,d⟩;obtain⟨ah,ak⟩:=d.cells;(have aJ:g<ae.heap.size:=by have:=d.size;omega)));go_ret;exact⟨rfl,((E.o.trans b).trans c).trans d⟩
end
section
open Go.RowKit Go.Shelf Go.Sort
attribute [local go_sem] Oper.semAt_some
end
section
open Go.RowKit Go.Shelf Go.Lib
attribute [local go_sem] Oper.semAt_some
def tp(a b:Nat):J:=.func (.func 109) #[] #[X (V ⟨a,0,Y⟩),X (V ⟨b,0,Y⟩)]
def xp(a b:Nat):J:=.func (.func 111) #[] #[X (V ⟨a,0,Y⟩),X (V ⟨b,0,Y⟩)]
structure Nj (w:Z) (b6 b7:Nat) (p q:Pl):Prop where
 h6:∃v u,w.cell? ⟨b6,10,Y⟩=V v/\w.cell? ⟨b6,11,Y⟩=V u/\Fa w v (Da p)/\Fa w u (La p)
 h7:∃v u,w.cell? ⟨b7,10,Y⟩=V v/\w.cell? ⟨b7,11,Y⟩=V u/\Fa w v (Da q)/\Fa w u (La q)
def Nj.ext{w w' a b p q}(h:Nj w a b p q)(k:Aa w w'):Nj w' a b p q:=by obtain⟨⟨v,u,c,d,e,f⟩,⟨m,l,g,h6,i,j⟩⟩:=h;exact⟨⟨v,u,k.d c,k.d d,e.f k,f.f k⟩,⟨m,l,k.d g,k.d h6,i.f k,j.f k⟩⟩
def zC w c p q x a b(h:Nj w a b p q)(j:Ca p=true)(k:Ca q=true)(i:Sa w c x)(g:Rb 300 x):Calls Tryz.prog 109 #[c,X (V ⟨a,0,Y⟩),X (V ⟨b,0,Y⟩)] w (Nd w (Ze p q x)):=by obtain⟨⟨v,u,m,d,n,e⟩,⟨s,l,o,h6,r,f⟩⟩:=h;exact XH w c u l p q x a b d h6 e f (Ye j).2 (Ye k).2 i g
def AC w c p q x a b(h:Nj w a b p q)(k:Ca p=true)(l:Ca q=true)(j:Sa w c x)(i:Rb 300 x):Calls Tryz.prog 111 #[c,X (V ⟨a,0,Y⟩),X (V ⟨b,0,Y⟩)] w (Nd w (Ef p q x)):=by obtain⟨⟨v,u,d,n,e,o⟩,⟨m,s,f,h6,g,r⟩⟩:=h;exact ZH w c v m p q x a b d f e g (Ye k).1 (Ye l).1 j i
def Kw{p q x}(b:Ca p=true)(c:Ca q=true)(a:Rb 300 x):Rb 1207 (Ze p q x):=
 Rb.fold2 ((Rb.atG (k:=300) dM a (Ye b).2).up dM) ((Rb.atG (k:=300) dM a (Ye c).2).up dM)
def Np{p q x}(b:Ca p=true)(c:Ca q=true)(a:Rb 300 x):Rb 1207 (Ef p q x):=
 Rb.fold2 ((Rb.atG (k:=300) dM a (Ye b).1).up dM) ((Rb.atG (k:=300) dM a (Ye c).1).up dM)
def YH w vx p q x b c R c2(h:Nj w b c p q)(j:Ca p=true)(k:Ca q=true)(f1:w.cell? ⟨R,0,Y⟩=V (xp b c))(f2:w.cell? ⟨c2,0,Y⟩=V (tp b c))(hx:Sa w vx x)(n:Rb 300 x):Calls Tryz.prog 114 #[vx,X (V ⟨R,0,Y⟩),X (V ⟨c2,0,Y⟩)] w (Nd w (Ef p q x-Ze p q x)):=by
 have H1:=ka (fun(W:Z)(m:Aa w W)=>AC W _ p q x b c (h.ext m) j k (hx.ext m) n);have H2:=ka (fun(W:Z)(m:Aa w W)=>zC W _ p q x b c (h.ext m) j k (hx.ext m) n);have HS:=ka (fun(W:Z)(va vb:J)(q1:Sa W va (Ef p q x))(q2:Sa W vb (Ze p q x))=>Zm W va vb _ _ q1 q2 (Ji (Np j k n) dM) (Ji (Kw j k n) dM));obtain⟨xa,xm,xc,xs,y,P,z,rfl⟩:=hx.form;obtain⟨z1,f⟩:=gX (Ef p q x);obtain⟨z2,g⟩:=gX (Ze p q x);rw[f]at H1 HS;rw[g]at H2 HS;rw[f,g];have l6:=World.block_lt_of_cell? w _ f1;have l7:=World.block_lt_of_cell? w _ f2;unfold xp at f1;unfold tp at f2;clear f g h j k n hx;dsimp only at l6 l7;go_in;go_wp2;refine Uc [(⟨R,0,Y⟩,.func (.func 111) #[] #[X (V ⟨b,0,Y⟩),X (V ⟨c,0,Y⟩)]),(⟨c2,0,Y⟩,.func (.func 109) #[] #[X (V ⟨b,0,Y⟩),X (V ⟨c,0,Y⟩)]),(⟨w.heap.size,0,Y⟩,O xa xm xc),(⟨w.heap.size,1,Y⟩,I xs),(⟨w.heap.size,2,Y⟩,O y P z)] cA fun a=>?_;refine sN 0 ?_
 iterate 2 refine Bb ?_
 refine oN ?_;refine sN 3 ?_
 iterate 2 refine Bb ?_
 refine oN ?_;refine Fb (i:=2) (H1.o _ eA) ?_;rintro e w3 ⟨r3,rfl,o,t⟩;obtain⟨a3,m3,c3,s3,b3,n3,k3,rfl⟩:=o.form;refine⟨_,rfl,(cE a t),fun a=>?_⟩;have X3:Aa w w3:=eA;refine Fb (i:=5) (H2.o _ X3) ?_;rintro e w4 ⟨r4,rfl,r,d⟩;obtain⟨a4,m4,c4,s4,b4,n4,k4,rfl⟩:=r.form;refine⟨_,rfl,(cE a d),fun a=>?_⟩;refine Fb (i:=6) (HS.o _ _ _ (o.ext d) r) ?_;rintro e w5 ⟨r5,rfl,s,u⟩;obtain⟨a5,m5,c5,s5,b5,n5,k5,rfl⟩:=s.form;refine⟨_,rfl,(cE a u),fun a=>?_⟩;have l:Aa w3 w5:=d.trans u;have hO:RB w5 (w.heap.size+1) 0:=((RB.new (Sa.zero _) sM).ext ((eR _).drew.trans t)).ext l;obtain⟨_,_,_,_,_,_,_,o0,j,k,aj,ak,al,zo,_⟩:=hO.rd;have aa:∀q∈[((⟨R,0,Y⟩:N),(.func (.func 111) #[] #[X (V ⟨b,0,Y⟩),X (V ⟨c,0,Y⟩)]:J)),(⟨c2,0,Y⟩,.func (.func 109) #[] #[X (V ⟨b,0,Y⟩),X (V ⟨c,0,Y⟩)]),(⟨w.heap.size,0,Y⟩,O xa xm xc),(⟨w.heap.size,1,Y⟩,I xs),(⟨w.heap.size,2,Y⟩,O y P z)],w.heap.size+1≠q.1.block:=by
  simp;omega
 refine Vc (i:=7) fun K hK=>?_;go_simp;refine kO hK (Ea.set3 (by assumption) aa _ _ _) (fun a=>?_);clear hK K;refine Sb ?_;go_wp2;have hP:=hO.put s;obtain⟨pa,pm,ad,af,ab,ae,ac,ag,ah,ai,_,_,_,_,hz⟩:=hP.rd;exact bR (v:=M #[O pa pm ad,I af,O ab ae ac]) (by simp[results,Tryz.results114,go_sem,ag,ah,ai]) rfl ⟨_,rfl,hz,(((X3.trans l).set dO _).set dO _).set dO _⟩
end
section
open Go.RowKit Go.Shelf Go.Sort Go.Lib
def lK{w w'}(h:Aa w w')(k:Dr w w'):∃q os,w'=grow (w.drewN q) os:=by
 obtain⟨d,f,g,m,j⟩:=(h:Below w.heap.size w w');obtain⟨b,s,l,os,r⟩:=w';obtain⟨a,p,c,n,o⟩:=w;dsimp only at d f g m j;unfold Dr at k;dsimp only at k;subst d f g;refine⟨l-c,b.extract a.size b.size,?_⟩;have e:b=a++b.extract a.size b.size:=by
  apply Array.ext_getElem?;intro i;rw[Array.getElem?_append];split
  ·exact j i (by assumption)
  ·rw[Array.getElem?_extract];split
   ·congr 1;omega
   ·rw[Array.getElem?_eq_none oM]
 unfold grow World.drewN;dsimp only;rw[<-e]
 congr 1
 omega
def Nz{W c q}(h:PR W c q):∀u∈c,u.oneCell'=true:=by
 obtain⟨a,m,d,s,f,j,g,e⟩:=Sa.form h;intro u b;have i:c=[O a m d,I s,O f j g]:=by
  have:=congrArg (fun v=>match v with | M a=>a.toList|_=>[]) e;simpa using this
 subst i;simp at b;rcases b with rfl|rfl|rfl<;>rfl
def BI{W}{cs:List (List J)}{d:List Rat}(g:cs.length=d.length)(h:∀(i:Nat) c q,cs[i]?=V c->d[i]?=V q->PR W c q):∀u∈cs.flatten,u.oneCell'=true:=by intro u a;obtain⟨c,e,a⟩:=List.mem_flatten.1 a;obtain⟨i,b⟩:=List.mem_iff_getElem?.1 e;have f:=(lS.1 b).1;exact Nz (h i c _ b (gE oM)) u a
def OI(W:Z) T k base(h:base<=W.heap.size):Ka T k (W.alloc (.cells #[] T)) base (O (V ⟨W.heap.size,0,Y⟩) 0 0) []:=
 ⟨fun c a=>by simp at a,by simp,.inr ⟨W.heap.size,0,_,rfl,h,aN _ _,by simp,by unfold maxLen;omega,by simp,by simp⟩⟩
def UO w base v m(h:Jd w base v m)(x:0<m.length)(u:m.length<=1000000):Calls Tryz.prog 106 #[v] w (Lk w m):=by
 obtain⟨cs,e,o,p⟩:=h;have f:=e.rd;obtain⟨a,c,rfl⟩:=e.form;obtain⟨g,rfl,hg,aa⟩:=e.blk oM;have ho:=BI o p;have r:=e.1;have H3:=ka (fun(W:Z)(hW:Aa w W) i c q hc hq=>Sa.ext (p i c q hc hq) hW);obtain⟨n,l⟩:=gX cs.length;have ab:n<=1000000:=oM;have Hn:=ka l;have R:=ka o;rw[l]at f ⊢;have s:([]:List (List J)).length+cs.length<=100000000000:=by rw[l];simp;omega
 clear e p u x l o hg;go_in;have j:Rd (w.alloc (.cells #[] 63)) 63 3 (O (V ⟨g,0,Y⟩) n c) cs.length cs.flatten:=by rw[Hn.o];exact Rd.ext f ((eR w).alloc _)
 have ac:=fun W=>Lib.run_eql_slice_nil (P:=Tryz.prog) W 177 63 (V ⟨g,0,Y⟩) n c 0 0 Tryz.underlying177;go_wp2_with(at_builtin;refine Cp (T:=63) (t:=177) (z:=M #[O Y 0 0,I false,O Y 0 0]) (k:=3) (bytes:=56) (base:=w.heap.size) (v:=O (V ⟨w.heap.size,0,Y⟩) 0 0) (cs:=[]) MM rfl dM dM Tryz.underlying177 rfl _ _ rfl rfl (OI w _ 3 w.heap.size (nE _)) rfl cs r j ho s sM ?_;intro v' w1 b d K;obtain⟨a3,n3,c3,rfl⟩:=b.i);go_ret;have y:Aa w w1:=((eR w).alloc _).y (Bh d sM (fun k hk=>by cases hk;exact nE _)) (nE _);exact⟨_,rfl,⟨cs,b,R.o,H3.o _ y⟩,y⟩
def Rx(w:Z)(x:List J×Rat):Prop:=PR w x.1 x.2/\Rb Vb x.2
instance (w:Z):Inhabited {x // Rx w x}:=⟨⟨([O Y 0 0,I false,O Y 0 0],0),Sa.zero w,by have:=(Ml (n:=0) (k:=1000) (by unfold Bd;omega)).mono (k:=Vb) dM;simpa using this⟩⟩
def nv w x y:ltOf (fun x y:{x // Rx w x}=>yb x.1.2 y.1.2) x y=decide (x.1.2<y.1.2):=by unfold ltOf;rw[decide_eq_decide];exact Kr _ _
def zy w:SWO (ltOf fun x y:{x // Rx w x}=>yb x.1.2 y.1.2) where
 irrefl x:=by rw[nv];simp
 trans x y z h1 h2:=by rw[nv]at *;simp only[decide_eq_true_eq]at *;grind
 ntrans x y z h1 h2:=by rw[nv]at *;simp only[decide_eq_false_iff_not]at *;exact Rat.not_lt.2 (Rat.le_trans (Rat.not_lt.1 h2) (Rat.not_lt.1 h1))
def Fy w(x y:{x // Rx w x}) W(a:Ia 2 w W):Calls Tryz.prog 75 #[M x.1.1.toArray,M y.1.1.toArray] W fun e f=>e=.returned (C .i64 (yb x.1.2 y.1.2))/\∃q os',f=grow (W.drewN q) os':=
 (Pz W _ _ _ _ (Sa.keep x.2.1 a) (Sa.keep y.2.1 a) x.2.2 y.2.2).mono fun _ _ ⟨b,c,d⟩=>⟨b,lK c d⟩
def TA{W c q}(h:PR W c q):c.length=3:=by obtain⟨a,m,d,s,b,g,f,e⟩:=Sa.form h;have:=congrArg (fun v=>match v with | M a=>a.size|_=>0) e;simpa using this
def uo(w:Z)(base g n c:Nat)(d:List Rat)(e:Ending)(w':Z):Prop:=
 e=.returned (.tuple #[])/\∃qs':List Rat,qs'.Perm d/\qs'.Pairwise (fun a b=>¬b<a)/\Jd w' base (O (V ⟨g,0,Y⟩) n c) qs'/\w.grownBy w' (V g)/\Ia 2 w w'
def vL w base g n c a(h:Jd w base (O (V ⟨g,0,Y⟩) n c) a)(hb:∀q∈a,Rb Vb q)(aa:a.length<=1000000):Calls Tryz.prog 108 #[O (V ⟨g,0,Y⟩) n c,.func (.func 75) #[] #[]] w (uo w base g n c a):=by
 obtain⟨r,s,h2,h3⟩:=h;have hn:=s.len;have t:∀x∈r.zip a,Rx w x:=fun x t=>by
  obtain⟨i,b⟩:=List.mem_iff_getElem?.1 t;rw[List.getElem?_zip_eq_some]at b;exact⟨h3 i _ _ b.1 b.2,hb _ (lM b.2)⟩
 obtain⟨d,hd⟩:=gX (((r.zip a).attachWith (Rx w) t).toArray);have f:d.size=n:=by rw[<-hd,hn,List.size_toArray,List.length_attachWith,List.length_zip];omega
 have l:d.toList.map (·.1)=r.zip a:=by rw[<-hd];exact Tr t
 have u:d.toList.map (fun x=>x.1.1)=r:=by
  rw[show (fun x:{x // Rx w x}=>x.1.1)=Prod.fst ∘ (·.1)from rfl,<-List.map_map,l,List.map_fst_zip oM]
 have v:d.toList.map (fun x=>x.1.2)=a:=by
  rw[show (fun x:{x // Rx w x}=>x.1.2)=Prod.snd ∘ (·.1)from rfl,<-List.map_map,l,List.map_snd_zip oM]
 have hg:=(s.lt g rfl).2;have eg:∀args w,(callFunc 75 args).run Tryz.prog w = .ok (.enter 75 args) w:=enters_of Tryz.func75 kM rfl;have h':Ka 63 3 w base (O (V ⟨g,0,Y⟩) n c) (d.toList.map fun x=>x.1.1):=by rw[u];exact s
 have hH:=UE (enc:=fun x:{x // Rx w x}=>x.1.1) (fun x=>TA x.2.1) h';have hk:∀{W:Z},w.grownBy W (V g)->Ia 2 w W:=fun z=>s.keepT dM z;have hp:=AnyQ.slices_SortFunc (P:=Tryz.prog) (ρ:=Tryz.sortRat_ren) Tryz.sortRat 3 Tryz.isAgg63 Tryz.sizeOf63 (fun x:{x // Rx w x}=>x.1.1) (fun x=>TA x.2.1) (fun x=>Nz x.2.1) (fun x y=>yb x.1.2 y.1.2) (zy w) 75 #[] g 0 c d w eg (fun _ _ dk _ x y=>Fy w x y _ (hk (nu dk))) hH hg oM;rw[f]at hp;refine hp.mono ?_;rintro e w' ⟨rfl,d',m,os,⟨q1,_,q3⟩,hs,rfl⟩;rw[<-f]at q3 hs;have q4:d'.toList.Perm d.toList:=by
  have e1:d'.extract 0 d.size=d':=by rw[<-q1];exact Array.extract_size
  rw[e1,Array.extract_size]at q3;exact q3
 have o:=hk (nu (enc:=fun x:{x // Rx w x}=>x.1.1) (k:=3) (w:=w) (g:=g) (m:=m) (os:=os) d');refine⟨rfl,d'.toList.map (fun x=>x.1.2),?_,?_,⟨d'.toList.map fun x=>x.1.1,Bx (m:=m) (os:=os) (enc:=fun x:{x // Rx w x}=>x.1.1) (fun x=>TA x.2.1) (d':=d') h' q1,by simp,?_⟩,nu _,o⟩
 ·rw[<-v];exact q4.map _
 ·rw[List.pairwise_map,List.pairwise_iff_getElem];intro i j b hj K;simp at b hj;have h9:=hs i j (Nat.zero_le _) K oM;rw[nv,getElem!_pos d' i b,getElem!_pos d' j hj]at h9;simpa using h9
 ·intro i c q hc hq;rw[lP,Option.map_eq_some_iff]at hc hq;obtain⟨x,R,rfl⟩:=hc;obtain⟨y,p,rfl⟩:=hq;rw[R]at p;cases p;exact Sa.keep x.2.1 o
def qn{p q}(d:Ca p=true)(f:Ca q=true):Rf (Qb p q):=by
 have a:∀{p:Pl},Ca p=true->Wb (Da p++La p):=fun {p} h=>by
  obtain⟨b,j⟩:=Ye h;obtain⟨k,o,Yh⟩:=Xn h;have c:=WD k (nE _);have a:=Vv (Ga p) (Ga p).length;have g:=(Ju (iB h) c.1 oM).2.2;have i:=(Ju (Av h) c.2 oM).2.2;refine⟨fun e=>b.1 (List.append_eq_nil_iff.1 e).1,fun x l=>(List.mem_append.1 l).elim (b.2.1 x) (j.2.1 x),?_⟩;rw[lA];exact nT (Nat.add_le_add g i) oM
 have m:=pF (Ye d).1;have n:=pF (Ye f).1;refine⟨a d,a f,?_,?_⟩<;>(unfold Qb;unfold Bd at *;dsimp only;omega)
def kE{a b y x c}(i:Wb a)(j:Wb b)(f:Rb 1 y)(e:Rb 1 x)(h:c∈od (Sg a b) y x):Rb 300 c:=by
 have d:∀{z:Rat},Rb 1 z->Rb 23 (Sg a b z):=fun g=>Rb.sub (k:=11) (g.atR i) (g.atR j);unfold od at h;split at h
 ·simp at h;subst h;exact(Rb.cross f e ((d f).up dM) ((d e).up dM)).up dM
 ·simp at h
def Jr{s}(h:Rf s):∀x∈Pa s,Rb 1 x:=fun x a=>by
 obtain⟨z,b,rfl⟩:=List.mem_map.1 a;exact Ml (OE h z b)
def Pr{s}(h:Rf s):(Pa s).length<=130:=by unfold Pa Eb;have a:=Nn (Vf (s.lo::s.hi::Wf s (s.over++s.under)));have b:=tC s (s.over++s.under);have c:=h.1.2.2;have d:=h.2.1.2.2;rw[Rr]at a;simp only[List.length_cons,lA,lL]at *;omega
def jI{p q}(g:Ca p=true)(i:Ca q=true){y x}(e:Rb 1 y)(d:Rb 1 x):(∀c∈Mi p q y x,Rb 300 c)/\(Mi p q y x).length<=2:=by
 constructor
 ·intro c a;rcases List.mem_append.1 a with a|a
  ·exact kE (Ye g).2 (Ye i).2 e d a
  ·exact kE (Ye g).1 (Ye i).1 e d a
 ·have b:∀f:Rat->Rat,(od f y x).length<=1:=fun f=>by unfold od;split<;>simp
  unfold Mi;rw[lA];exact Nat.add_le_add (b _) (b _)
def vw{p q}(a:Ca p=true)(b:Ca q=true):∀n,n+1<=(Pa (Qb p q)).length->(∀c∈Xf p q n,Rb 300 c)/\(Xf p q n).length<=130+2*n
 | 0,_=>⟨fun c d=>(Jr (qn a b) c d).up (by decide),Pr (qn a b)⟩
 | n+1,h=>by
  obtain⟨f,k⟩:=vw a b n oM;have e:∀i,i<(Pa (Qb p q)).length->Rb 1 ((Pa (Qb p q)).getD i 0):=fun i j=>by
   refine Jr (qn a b) _ ?_;rw[gD,gE j,Option.getD_some];exact List.getElem_mem _
  obtain⟨g,l⟩:=jI a b (e n oM) (e (n+1) oM);refine⟨fun c d=>(List.mem_append.1 d).elim (f c) (g c),?_⟩;show (Xf p q n++Mi p q _ _).length<=_;rw[lA];omega
