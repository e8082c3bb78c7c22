import Derived.Test.YtgimcmpeceifnaaGreatDoorComA21
import Derived.Laws.StructEq
import Derived.Maps.Own
set_option maxRecDepth 1000000
set_option maxHeartbeats 16000000
set_option linter.all false
open Go.Value renaming int->O,slice->V
open Go.IntKind renaming i64->Y
open Option renaming none->Z,some->X
open Go renaming World->I,Value->J
namespace Go.Proofs.YtgimcmpeceifnaaGreatDoor.Cop
section
open Go.RowKit Go.Shelf Go.Sort Go.Lib
def xQ w f g(k:Ia w f Fc)(l:ld w g Bc)(b:Gw w):Calls Tryz.prog 11 #[.agg #[f,g],.agg (Uf Zj)] w fun e i=>∃a c,e=.returned (.tuple #[V a 2 c,O Y 0])/\Ye i (V a 2 c) [Ao,Vm]/\Ba w i:=by
 refine(XQ w f g Fc Bc Zj k l b).mono ?_;rintro e i (⟨h,_⟩|⟨_,v,L,n,rs,rfl,j,d,m⟩)
 ·exact absurd Kw h
 ·obtain⟨rfl,-⟩:=fu d;obtain⟨a,c,rfl⟩:=j.form;exact⟨a,c,rfl,j,m⟩
def KM w c d(g:Ia w c Fc)(j:ld w d Bc)(a:Gw w):Calls Tryz.prog 24 #[.agg #[c,d],.agg (Uf Zj)] w fun e f=>∃v,e=.returned (.tuple #[v,O Y 0])/\Ud f v [0,0]/\Ba w f:=by
 refine(WE w c d Fc Bc Zj g j a).mono ?_;rintro e f (⟨h,_⟩|⟨_,v,L,l,rs,rfl,i,b,k⟩)
 ·exact absurd Kw h
 ·obtain⟨-,rfl⟩:=fu b;exact⟨v,rfl,i,k⟩
def qQ w(L:Gw w):Calls Tryz.prog 9 #[] w fun e w'=>e=.returned (.bool true)/\Ba w w':=by have o:=za L;clear L;go_in;go_upto_region 2 with (first|(go_at_call 34;(with_reducible refine(vy _).mono ?_);rintro e aw ⟨ao,ar,rfl,ah,al,R⟩;have r:Ba w aw:=(eR w).trans R)|(go_at_call 35;(with_reducible refine(Oz _).mono ?_);rintro e ax ⟨rfl,j⟩;have l:Ba w ax:=r.trans j)|(go_at_call 11;(with_reducible refine(xQ _ ao ar (ah.f j) (al.f j) (o.o.ext l)).mono ?_);rintro e ad ⟨ja,aE,rfl,hj,ac⟩;have s:Ba w ad:=l.trans ac));go_upto_region 3 with (first|(go_at_call 34;(with_reducible refine(vy _).mono ?_);rintro e ay ⟨ap,au,rfl,ai,am,p⟩;have t:Ba w ay:=s.trans p)|(go_at_call 35;(with_reducible refine(Oz _).mono ?_);rintro e az ⟨rfl,f⟩;have m:Ba w az:=t.trans f)|(go_at_call 24;(with_reducible refine(KM _ ap au (ai.f f) (am.f f) (o.o.ext m)).mono ?_);rintro e ae ⟨vr,rfl,hr,q⟩;have u:Ba w ae:=m.trans q));go_upto_region 4 with (first|(go_at_call 34;(with_reducible refine(vy _).mono ?_);rintro e aA ⟨aq,av,rfl,aj,an,g⟩;have y:Ba w aA:=u.trans g)|(go_at_call 35;(with_reducible refine(Oz _).mono ?_);rintro e aB ⟨rfl,c⟩;have n:Ba w aB:=y.trans c)|(go_at_call 28;(with_reducible refine(kS _ aq av (aj.f c) (an.f c) (o.o.ext n)).mono ?_);rintro e a ⟨vc,rfl,hc,k⟩;have z:Ba w a:=n.trans k));have X3:Ba ad a:=((((p.trans f).trans q).trans g).trans c).trans k;have X2:Ba ae a:=(g.trans c).trans k;obtain⟨jb,jo,d,rfl,aD,ak,hd,b⟩:=Sl.at (hj.f X3) (i:=1) (x:=Vm) rfl;subst hd;have d0:=b 0 (O Y 2) rfl;have d1:=b 1 (O Y 3) rfl;have d2:=b 2 (O Y 200) rfl;have d3:=b 3 (O Y 200) rfl;have d4:=b 4 (O Y 80) rfl;have d5:=b 5 (O Y 160) rfl;simp only[Nat.add_zero,Nat.one_mul]at d0 d1 d2 d3 d4 d5;have af:=za (fun(W:I)(hW:Ba a W)(v:J)(h:Ud W v [0,0])=>ky W vr v [0,0] [0,0] ((hr.f X2).f hW) h);have ag:=za (fun(W:I)(hW:Ba a W)(v:J)(h:Ud W v [1,1,2,2,3])=>ky W vc v [1,1,2,2,3] [1,1,2,2,3] (hc.f hW) h);have E:=za z;clear b hj hr hc X3 X2 ak R j ac p f q g c k r l s t m u y n z;go_wp2_with(first|(go_at_call 26;(with_reducible refine(af.o _ ((eR a).alloc _) _ ((AC a 0 0 0 (Nat.zero_le _)).is)).mono ?_);rintro e aC ⟨rfl,aa⟩;have K:=((eR a).alloc (.cells #[O Y 0,O Y 0] 3)).trans aa)|(go_at_call 26;(with_reducible refine(ag.o _ (K.alloc _) _ (Js aC rfl 1 1 2 2 3)).mono ?_);rintro e aF ⟨rfl,ab⟩));go_ret;exact⟨rfl,((E.o.trans K).alloc _).trans ab⟩
end
section
open Go.RowKit Go.Shelf Go.Sort Go.Lib
attribute [local go_sem] Oper.semAt_some
def Kk(j:Jt):List Int:=[j.fr,j.left,j.a,j.b]
def pA(j:Jt):Array J:=#[O Y j.fr,O Y j.left,O Y j.a,O Y j.b]
def kD{p}{i:Nat}{x}(h:(Kk p)[i]?=X x):(pA p)[i]?=X (O Y x):=by
 match i,h with
 | 0,h=>cases h;rfl
 | 1,h=>cases h;rfl
 | 2,h=>cases h;rfl
 | 3,h=>cases h;rfl
 | i+4,h=>simp[Kk]at h
def iK{p q}{i:Nat}{x y}(b:(Kk p)[i]?=X x)(c:(Kk q)[i]?=X y)(a:∀k u v,k<i->(Kk p)[k]?=X u->(Kk q)[k]?=X v->u=v)(d:x≠y):decide (x<y)=decide (fh p q<0):=by
 rw[decide_eq_decide,Fo]
 match i,b,c,a with
 | 0,b,c,a=>cases b;cases c;omega
 | 1,b,c,a=>cases b;cases c;have:=a 0 _ _ oM rfl rfl;omega
 | 2,b,c,a=>cases b;cases c;have:=a 0 _ _ oM rfl rfl;have:=a 1 _ _ oM rfl rfl;omega
 | 3,b,c,a=>cases b;cases c;have:=a 0 _ _ oM rfl rfl;have:=a 1 _ _ oM rfl rfl;have:=a 2 _ _ oM rfl rfl;omega
 | i+4,b,c,a=>simp[Kk]at b
def EH{p q}(a:∀k u v,k<4->(Kk p)[k]?=X u->(Kk q)[k]?=X v->u=v):decide (fh p q<0)=false:=by rw[decide_eq_false_iff_not,Fo];have b:=a 0 _ _ oM rfl rfl;have c:=a 1 _ _ oM rfl rfl;have d:=a 2 _ _ oM rfl rfl;have e:=a 3 _ _ oM rfl rfl;omega
def mW(w:I)(p q:Jt)(t5 a:J)(W:I):Prop:=∃b5 b6,t5=V (X ⟨b5,0,Z⟩) 4 4/\a=V (X ⟨b6,0,Z⟩) 4 4/\W.heap[b5]?=X (.cells (pA p) 3 (0,0))/\W.heap[b6]?=X (.cells (pA q) 3 (0,0))/\Ba w W
def lW(W0:I)(p q:Jt)(a:J)(W:I):Prop:=∃i:Nat,a=O Y i/\i<=4/\Ba W0 W/\∀k u v,k<i->(Kk p)[k]?=X u->(Kk q)[k]?=X v->u=v
def mR w p q:Calls Tryz.prog 45 #[.agg (yh p),.agg (yh q)] w fun e w'=>e=.returned (.bool (decide (fh p q<0)))/\Ba w w':=by
 unfold yh;go_in;go_upto_region 1 with fail;go_cut [5,6] (mW w p q)
 case first =>
  refine jd [(⟨w.heap.size,0,Z⟩,O Y p.a),(⟨w.heap.size,1,Z⟩,O Y p.b),(⟨w.heap.size,2,Z⟩,O Y p.left),(⟨w.heap.size,3,Z⟩,O Y p.right),(⟨w.heap.size,4,Z⟩,O Y p.fr),(⟨w.heap.size,5,Z⟩,O Y p.til),(⟨w.heap.size+1,0,Z⟩,O Y q.a),(⟨w.heap.size+1,1,Z⟩,O Y q.b),(⟨w.heap.size+1,2,Z⟩,O Y q.left),(⟨w.heap.size+1,3,Z⟩,O Y q.right),(⟨w.heap.size+1,4,Z⟩,O Y q.fr),(⟨w.heap.size+1,5,Z⟩,O Y q.til)] cA fun c=>?_;refine La (i:=0) ?_;refine La (i:=1) ?_;refine La (i:=2) ?_;refine La (i:=3) ?_;refine La (i:=4) ?_;refine La (i:=5) ?_;refine La (i:=6) ?_;refine La (i:=7) ?_;refine La (i:=9) ?_;refine La (i:=10) ?_;refine La (i:=11) ?_;refine La (i:=12) ?_;refine La (i:=13) ?_;refine La (i:=14) ?_;refine La (i:=15) ?_;refine La (i:=16) ?_;refine yn (i:=8) (j:=17) (fun K f=>?f1) (fun K f=>?f2)
  case f1 =>
   go_simp;refine kO f (cE c ((eR _).alloc _)) (fun c=>?_);clear f K;refine La (i:=18) ?_;refine Te (i:=17) fun K f=>?_;go_simp;refine kO f (cE c ((eR _).alloc _)) (fun c=>?_);clear f K;refine La (i:=19) ?_;refine Pb ?_;go_wp2;go_meet;exact⟨_,_,rfl,rfl,((eR _).alloc _).drew.e (mc _ _ _ sM),(eR _).drew.e (mc _ _ _ sM),eA⟩
  case f2 =>
   go_simp;refine kO f (cE c ((eR _).alloc _)) (fun c=>?_);clear f K;refine Te (i:=8) fun K f=>?_;go_simp;refine kO f (cE c ((eR _).alloc _)) (fun c=>?_);clear f K;refine sN 18 ?_
   iterate 2 refine Db ?_
   refine oN ?_;refine Pb ?_;go_wp2;go_meet;exact⟨_,_,rfl,rfl,(eR _).drew.e (mc _ _ _ sM),((eR _).alloc _).drew.e (mc _ _ _ sM),eA⟩
 case rest =>
  obtain⟨z,L,rfl,rfl,W,K6,X1⟩:=hcut;have s:=za (And.intro W (And.intro K6 X1));clear W K6 X1;go_wp2;go_loopw [7] (lW wc p q) (fun t7 _=>4-(intOf t7).toNat)
  case atStart=>exact⟨0,rfl,by omega,eR _,fun k u v hk=>by omega⟩
  case round =>
   obtain⟨i,rfl,hi,t,l⟩:=hrel;have d:=za l;have HX:=za t;clear l;by_cases r:i<4
   ·obtain⟨x,n⟩:∃x,(Kk p)[i]?=X x:=⟨_,gE (show i<(Kk p).length from r)⟩;obtain⟨y,o⟩:∃x,(Kk q)[i]?=X x:=⟨_,gE (show i<(Kk q).length from r)⟩;have c5:=Lb (t.e s.o.1) (kD n);have c6:=Lb (t.e s.o.2.1) (kD o);have g:=za (And.intro n o);have g0:(0:Int)<=(i:Int):=oM;have g1:(i:Int)<4:=oM;clear n o t;by_cases m:x=y
    ·subst m;have e1:(x != x)=false:=sM;go_wp2;refine jd [(⟨z,i,Z⟩,O Y x),(⟨L,i,Z⟩,O Y x)] cA fun c=>?_;refine La (i:=0) ?_;refine La (i:=1) ?_;refine La (i:=2) ?_;refine La (i:=3) ?_;refine La (i:=4) ?_;refine La (i:=5) ?_;refine La (i:=6) ?_;refine La (i:=7) ?_;refine La (i:=8) ?_;refine Pb ?_;go_wp2;go_roundw
     case rel =>
      refine⟨i+1,by go_num,by omega,HX.o.drew,fun k u v hk R hv=>?_⟩;by_cases h:k=i
      ·subst h;rw[g.o.1]at R;rw[g.o.2]at hv;cases R;cases hv;rfl
      ·exact d.o k u v oM R hv
     case measure=>simp[intOf];omega
    ·(have e1:(x != y)=true:=by simpa using m);have e2:=iK g.o.1 g.o.2 d.o m;have E2:=za e2;clear e2;go_wp2;refine jd [(⟨z,i,Z⟩,O Y x),(⟨L,i,Z⟩,O Y y)] cA fun c=>?_;refine La (i:=0) ?_;refine La (i:=1) ?_;refine La (i:=2) ?_;refine La (i:=3) ?_;refine La (i:=4) ?_;refine La (i:=5) ?_;refine La (i:=6) ?_;refine La (i:=7) ?_;refine La (i:=8) ?_;refine Pb ?_;go_wp2;refine jd [(⟨z,i,Z⟩,O Y x),(⟨L,i,Z⟩,O Y y)] (cE c (eR _).drew) fun c=>?_;refine La (i:=0) ?_;refine La (i:=1) ?_;refine La (i:=2) ?_;refine La (i:=3) ?_;refine La (i:=4) ?_;refine La (i:=5) ?_;refine La (i:=6) ?_;refine La (i:=7) ?_;refine La (i:=8) ?_;refine La (i:=9) ?_;refine Pb ?_;go_wp2;go_ret;exact⟨by rw[<-E2.o];rfl,s.o.2.2.trans HX.o.drew.drew⟩
   ·obtain rfl:i=4:=oM;have e:=za (EH d.o);go_wp2;go_ret;exact⟨by rw[e.o];rfl,s.o.2.2.trans HX.o⟩
def oA{a b c}(h:b=false):(a&&(b&&c))=false:=by subst h;cases a<;>rfl
def ou{a b c d}(h:c=false):(a&&(b&&(c&&d)))=false:=by subst h;cases a<;>cases b<;>rfl
def yp{b c d e}(h:(d&&e)=false):(true&&(b&&(c&&(d&&e))))=false:=by rw[h];cases b<;>cases c<;>rfl
def Ii{r ps j}:Vd (Kb r ps) j=true ↔ ∃k p,ps[k]?=X p/\(Xf r (Ib k p)&&Nh j (Ib k p))=true:=by
 unfold Vd Kb;rw[List.any_eq_true];constructor
 ·rintro ⟨x,c,d⟩;obtain⟨c,e⟩:=List.mem_filter.1 c;obtain⟨k,a⟩:=List.mem_iff_getElem?.1 c;unfold Se at a;rw[List.getElem?_mapIdx,Option.map_eq_some_iff]at a;obtain⟨p,b,rfl⟩:=a;exact⟨k,p,b,by rw[e,d];rfl⟩
 ·rintro ⟨k,p,b,h⟩;rw[Bool.and_eq_true]at h;exact⟨Ib k p,List.mem_filter.2 ⟨lM (yr b),h.1⟩,h.2⟩
def YV(W0:I)(r:Ru)(ps:List Pl)(j:Jt)(a:J)(W:I):Prop:=∃i:Nat,a=O Y i/\i<=ps.length/\Ba W0 W/\∀k p,k<i->ps[k]?=X p->(Xf r (Ib k p)&&Nh j (Ib k p))=false
def EM w vg vp ps r j(hg:∃a n c,vg=V a n c)(hp:Cf w vp ps)(aj:∀p∈ps,Fa p=true)(au:ps.length<=120):Calls Tryz.prog 44 #[.agg #[vg,vp],.agg (Uf r),.agg (yh j)] w fun e w'=>e=.returned (.bool (Vd (Kb r ps) j))/\Ba w w':=by
 obtain⟨ga,gn,gc,rfl⟩:=hg;have HP:=za hp;have aq:=za aj;obtain⟨pa,z,rfl⟩:=hp.form;obtain⟨n,hn⟩:=gX ps.length;rw[hn]at au ⊢;have K:=za hn;obtain⟨F,hF⟩:=gX (Vd (Kb r ps) j);rw[hF];have HF:=za hF;clear hp aj hn hF;unfold Uf yh;go_in;go_wp2;obtain⟨W1,t⟩:=gX ((((w.alloc (.cells #[V ga gn gc,V pa n z] 25)).alloc (.cells #[O .u8 r.skin,O Y r.pin,O Y r.wide,O Y r.lap,O Y r.step,O Y r.run,O Y r.level] 27)).alloc (.cells #[O Y j.a,O Y j.b,O Y j.left,O Y j.right,O Y j.fr,O Y j.til] 97)));have X1:Ba w W1:=by rw[<-t];exact(((eR _).alloc _).alloc _).alloc _
 have K2:W1.heap[w.heap.size]?=X (.cells #[V ga gn gc,V pa n z] 25 (0,0)):=by rw[<-t];exact(((eR _).alloc _).alloc _).e (aN w _)
 have K3:W1.heap[w.heap.size+1]?=X (.cells #[O .u8 r.skin,O Y r.pin,O Y r.wide,O Y r.lap,O Y r.step,O Y r.run,O Y r.level] 27 (0,0)):=by rw[<-t];exact((eR _).alloc _).e (mc _ _ _ sM)
 have K4:W1.heap[w.heap.size+1+1]?=X (.cells #[O Y j.a,O Y j.b,O Y j.left,O Y j.right,O Y j.fr,O Y j.til] 97 (0,0)):=by rw[<-t];exact mc _ _ _ sM
 have C1:Da [(⟨w.heap.size,1,Z⟩,V pa n z),(⟨w.heap.size+1,0,Z⟩,O .u8 r.skin),(⟨w.heap.size+1+1,0,Z⟩,O Y j.a),(⟨w.heap.size+1+1,1,Z⟩,O Y j.b),(⟨w.heap.size+1+1,2,Z⟩,O Y j.left),(⟨w.heap.size+1+1,3,Z⟩,O Y j.right),(⟨w.heap.size+1+1,4,Z⟩,O Y j.fr),(⟨w.heap.size+1+1,5,Z⟩,O Y j.til)] W1:=
  ⟨Lb K2 (i:=1) rfl,Lb K3 (i:=0) rfl,Lb K4 (i:=0) rfl,Lb K4 (i:=1) rfl,Lb K4 (i:=2) rfl,Lb K4 (i:=3) rfl,Lb K4 (i:=4) rfl,Lb K4 (i:=5) rfl,trivial⟩
 obtain⟨s,hs⟩:=gX w.heap.size;rw[t];simp only[hs]at C1 ⊢;have aa:=za X1;have ao:=za C1;clear X1 C1 t hs K2 K3 K4;go_loopw [7] (YV W1 r ps j) (fun t7 _=>n-(intOf t7).toNat)
 case atStart=>exact⟨0,rfl,by omega,eR _,fun k p R=>by omega⟩
 case round =>
  obtain⟨i,rfl,hi,hx,L⟩:=hrel;rw[K.o]at hi;have d:=za L;have HX:=za hx;obtain⟨c1,k0,j0,j1,j2,j3,j4,j5,-⟩:=cE ao.o hx;clear L;by_cases ar:i<n
  ·obtain⟨p,y⟩:∃p,ps[i]?=X p:=⟨_,gE (by rw[K.o];exact ar)⟩;obtain⟨b,o,v,rfl,hb,hv,av,u⟩:=(HP.o.f (aa.o.trans hx)).at' y;have ak:=aq.o p (lM y);have HE:=za (fun W (hW:Ba wr W)=>py W v p (hv.f hW) ak);have HI:=za (fun W=>Ky W p v r.skin (by obtain⟨a,n,c,e⟩:=hv.i;exact⟨a,n,c,e⟩));have l:=za y;obtain⟨sa,sn,sc,rfl⟩:=hv.i;have x:(Xf r (Ib i p)&&Nh j (Ib i p))=((p.skin==r.skin || p.skin==3)&&(((i:Int) != j.a)&&(((i:Int) != j.b)&&(Yj (td Prod.snd (Ca p)).1 (td Prod.snd (Ca p)).2 j.fr j.til&&Yj (td Prod.fst (Ca p)).1 (td Prod.fst (Ca p)).2 j.left j.right)))):=rfl;obtain⟨xl,af⟩:=gX ((td Prod.fst (Ca p)).1);obtain⟨xh,ae⟩:=gX ((td Prod.fst (Ca p)).2);obtain⟨zl,ai⟩:=gX ((td Prod.snd (Ca p)).1);obtain⟨zh,ah⟩:=gX ((td Prod.snd (Ca p)).2);rw[af,ae,ai,ah]at x;simp only[af,ae,ai,ah]at HE;obtain⟨kb,ab⟩:=gX ((p.skin==r.skin || p.skin==3));obtain⟨zb,ag⟩:=gX (Yj zl zh j.fr j.til);obtain⟨xb,ad⟩:=gX (Yj xl xh j.left j.right);rw[ab,ag,ad]at x;rw[ab]at HI;have HZ:=za ag;have ap:=za ad;have g:=za x;have g0:(0:Int)<=(i:Int):=oM;have g1:(i:Int)<(n:Int):=oM;unfold Dd at u HE HI;have d0:=u 0 (.string p.name) rfl;have d1:=u 1 (V sa sn sc) rfl;have d2:=u 2 (O Y p.depth) rfl;have d3:=u 3 (O Y p.density) rfl;have d4:=u 4 (O Y p.gx) rfl;have d5:=u 5 (O Y p.gz) rfl;have d6:=u 6 (O Y p.way) rfl;have d7:=u 7 (O Y p.ax) rfl;have d8:=u 8 (O Y p.az) rfl;have d9:=u 9 (O .u8 p.skin) rfl;simp only[Nat.add_zero]at d0;clear af ae ai ah ab ag ad x u y ak hv av hx;go_upto_region 5 with (go_at_call 43;refine cM (HE.o _ (eR _)) ?_;rintro e w2 ⟨rfl,ac⟩);have C2:Da [(⟨s,1,Z⟩,V (X ⟨b,o,Z⟩) n z),(⟨s+1,0,Z⟩,O .u8 r.skin),(⟨s+1+1,0,Z⟩,O Y j.a),(⟨s+1+1,1,Z⟩,O Y j.b),(⟨s+1+1,2,Z⟩,O Y j.left),(⟨s+1+1,3,Z⟩,O Y j.right),(⟨s+1+1,4,Z⟩,O Y j.fr),(⟨s+1+1,5,Z⟩,O Y j.til),(⟨b,o+i*10,Z⟩,.string p.name),(⟨b,o+i*10+1,Z⟩,V sa sn sc),(⟨b,o+i*10+2,Z⟩,O Y p.depth),(⟨b,o+i*10+3,Z⟩,O Y p.density),(⟨b,o+i*10+4,Z⟩,O Y p.gx),(⟨b,o+i*10+5,Z⟩,O Y p.gz),(⟨b,o+i*10+6,Z⟩,O Y p.way),(⟨b,o+i*10+7,Z⟩,O Y p.ax),(⟨b,o+i*10+8,Z⟩,O Y p.az),(⟨b,o+i*10+9,Z⟩,O .u8 p.skin)] w2:=
    cE ⟨c1,k0,j0,j1,j2,j3,j4,j5,d0,d1,d2,d3,d4,d5,d6,d7,d8,d9,trivial⟩ ac
   have X2:Ba wr w2.drew:=ac.drew;clear c1 k0 j0 j1 j2 j3 j4 j5 d0 d1 d2 d3 d4 d5 d6 d7 d8 d9 HE;refine jd _ (cE C2 (eR _).drew) fun m=>?_;clear C2 ac;by_cases hA:(i:Int)=j.a
   ·(have e1:((i:Int) != j.a)=false:=by simpa using hA);clear hA;refine La (i:=0) ?_;refine La (i:=1) ?_;refine La (i:=2) ?_;refine La (i:=3) ?_;refine La (i:=4) ?_;refine Pa (i:=5) ?_;refine Pa (i:=6) ?_;refine Pa (i:=7) ?_;refine Pa (i:=8) ?_;refine La (i:=9) ?_;refine La (i:=10) ?_;refine Pa (i:=11) ?_;refine Pa (i:=12) ?_;refine Pa (i:=13) ?_;refine Pa (i:=14) ?_;refine Pa (i:=15) ?_;refine Pa (i:=16) ?_;refine Pa (i:=17) ?_;refine Pa (i:=18) ?_;refine La (i:=19) ?_;refine La (i:=20) ?_;refine Pa (i:=21) ?_;refine Pa (i:=22) ?_;refine Pa (i:=23) ?_;refine Pa (i:=24) ?_;refine Pa (i:=25) ?_;refine Pa (i:=26) ?_;refine Pa (i:=27) ?_;refine La (i:=28) ?_;refine La (i:=29) ?_;refine Pa (i:=30) ?_;refine Pa (i:=31) ?_;refine Pa (i:=32) ?_;refine Pa (i:=33) ?_;refine Pa (i:=34) ?_;refine Pa (i:=35) ?_;refine Pa (i:=36) ?_;refine La (i:=37) ?_;have e2:=e1;refine Pb ?_;go_wp2;go_roundw
    case rel =>
     refine⟨i+1,by go_num,by rw[K.o];omega,HX.o.trans (X2),fun k q R f=>?_⟩;by_cases h:k=i
     ·subst h;rw[l.o]at f;cases f;rw[g.o];exact oA e2
     ·exact d.o k q oM f
    case measure=>simp[intOf];omega
   have e1:((i:Int) != j.a)=true:=by simpa using hA
   clear hA;by_cases hB:(i:Int)=j.b
   ·(have e2:((i:Int) != j.b)=false:=by simpa using hB);clear hB;refine La (i:=0) ?_;refine La (i:=1) ?_;refine La (i:=2) ?_;refine La (i:=3) ?_;refine La (i:=4) ?_;refine La (i:=5) ?_;refine La (i:=6) ?_;refine La (i:=7) ?_;refine La (i:=8) ?_;refine La (i:=9) ?_;refine La (i:=10) ?_;refine Pa (i:=11) ?_;refine Pa (i:=12) ?_;refine Pa (i:=13) ?_;refine Pa (i:=14) ?_;refine Pa (i:=15) ?_;refine Pa (i:=16) ?_;refine Pa (i:=17) ?_;refine Pa (i:=18) ?_;refine La (i:=19) ?_;refine La (i:=20) ?_;refine Pa (i:=21) ?_;refine Pa (i:=22) ?_;refine Pa (i:=23) ?_;refine Pa (i:=24) ?_;refine Pa (i:=25) ?_;refine Pa (i:=26) ?_;refine Pa (i:=27) ?_;refine La (i:=28) ?_;refine La (i:=29) ?_;refine Pa (i:=30) ?_;refine Pa (i:=31) ?_;refine Pa (i:=32) ?_;refine Pa (i:=33) ?_;refine Pa (i:=34) ?_;refine Pa (i:=35) ?_;refine Pa (i:=36) ?_;refine La (i:=37) ?_;have e3:=e1;have e4:=e2;refine Pb ?_;go_wp2;go_roundw
    case rel =>
     refine⟨i+1,by go_num,by rw[K.o];omega,HX.o.trans (X2),fun k q R f=>?_⟩;by_cases h:k=i
     ·subst h;rw[l.o]at f;cases f;rw[g.o];exact ou e4
     ·exact d.o k q oM f
    case measure=>simp[intOf];omega
   have e2:((i:Int) != j.b)=true:=by simpa using hB
   clear hB;have e3:=e1;have e4:=e2;refine La (i:=0) ?_;refine La (i:=1) ?_;refine La (i:=2) ?_;refine La (i:=3) ?_;refine La (i:=4) ?_;refine La (i:=5) ?_;refine La (i:=6) ?_;refine La (i:=7) ?_;refine La (i:=8) ?_;refine La (i:=9) ?_;refine La (i:=10) ?_;refine La (i:=11) ?_;refine La (i:=12) ?_;refine La (i:=13) ?_;refine La (i:=14) ?_;refine La (i:=15) ?_;refine La (i:=16) ?_;refine La (i:=17) ?_;refine Ac (i:=18) (HI.o _) ?_;rintro e w3 ⟨rfl,al⟩;refine⟨_,rfl,(cE m al),fun m=>?_⟩;have X3:=X2.trans al;cases kb with
   |false=>
    refine La (i:=19) ?_;refine La (i:=20) ?_;refine Pa (i:=21) ?_;refine Pa (i:=22) ?_;refine Pa (i:=23) ?_;refine Pa (i:=24) ?_;refine Pa (i:=25) ?_;refine Pa (i:=26) ?_;refine Pa (i:=27) ?_;refine La (i:=28) ?_;refine La (i:=29) ?_;refine Pa (i:=30) ?_;refine Pa (i:=31) ?_;refine Pa (i:=32) ?_;refine Pa (i:=33) ?_;refine Pa (i:=34) ?_;refine Pa (i:=35) ?_;refine Pa (i:=36) ?_;refine La (i:=37) ?_;refine Pb ?_;go_wp2;go_roundw
    case rel =>
     refine⟨i+1,by go_num,by rw[K.o];omega,HX.o.trans (X3),fun k q R f=>?_⟩;by_cases h:k=i
     ·subst h;rw[l.o]at f;cases f;rw[g.o];rfl
     ·exact d.o k q oM f
    case measure=>simp[intOf];omega
   |true=>
    refine La (i:=19) ?_;refine La (i:=20) ?_;refine La (i:=21) ?_;refine La (i:=22) ?_;refine La (i:=23) ?_;refine La (i:=24) ?_;refine La (i:=25) ?_;refine La (i:=26) ?_;refine Ac (i:=27) (uB _ zl zh j.fr j.til) ?_;rintro e w4 ⟨rfl,am⟩;(rw[HZ.o]);refine⟨_,rfl,(cE m am),fun m=>?_⟩;have X4:=X3.trans am;cases zb with
    |false=>
     refine La (i:=28) ?_;refine La (i:=29) ?_;refine Pa (i:=30) ?_;refine Pa (i:=31) ?_;refine Pa (i:=32) ?_;refine Pa (i:=33) ?_;refine Pa (i:=34) ?_;refine Pa (i:=35) ?_;refine Pa (i:=36) ?_;refine La (i:=37) ?_;refine Pb ?_;go_wp2;go_roundw
     case rel =>
      refine⟨i+1,by go_num,by rw[K.o];omega,HX.o.trans (X4),fun k q R f=>?_⟩;by_cases h:k=i
      ·subst h;rw[l.o]at f;cases f;rw[g.o];exact yp rfl
      ·exact d.o k q oM f
     case measure=>simp[intOf];omega
    |true=>
     refine La (i:=28) ?_;refine La (i:=29) ?_;refine La (i:=30) ?_;refine La (i:=31) ?_;refine La (i:=32) ?_;refine La (i:=33) ?_;refine La (i:=34) ?_;refine La (i:=35) ?_;refine Ac (i:=36) (uB _ xl xh j.left j.right) ?_;rintro e w5 ⟨rfl,an⟩;(rw[ap.o]);refine⟨_,rfl,(cE m an),fun m=>?_⟩;have X5:=X4.trans an;cases xb with
     |false=>
      refine La (i:=37) ?_;refine Pb ?_;go_wp2;go_roundw
      case rel =>
       refine⟨i+1,by go_num,by rw[K.o];omega,HX.o.trans (X5),fun k q R f=>?_⟩;by_cases h:k=i
       ·subst h;rw[l.o]at f;cases f;rw[g.o];exact yp rfl
       ·exact d.o k q oM f
      case measure=>simp[intOf];omega
     |true=>
      refine La (i:=37) ?_;refine Pb ?_;(have e:F=true:=by rw[<-HF.o];exact Ii.2 ⟨i,p,l.o,by rw[g.o,e3,e4];rfl⟩);subst e;go_wp2;go_ret;exact⟨rfl,aa.o.trans (HX.o.trans X5)⟩
  ·obtain rfl:i=n:=oM;have e:F=false:=by
    cases F with
    | false=>rfl
    |true=>
     obtain⟨k,p,R,h⟩:=Ii.1 HF.o;have:=d.o k p (by have:=(lS.1 R).1;rw[K.o]at this;exact this) R;rw[this]at h;cases h
   subst e;go_wp2;go_ret;exact⟨rfl,aa.o.trans HX.o⟩
end
section
open Go.RowKit Go.Shelf Go.Sort Go.Lib Go.Maps
attribute [local go_sem] Oper.semAt_some
def Ql(W:World)(B n:Nat)(f:Nat->Option Int):Prop:=
 ∃D:DataW Unit,W.ownsMap Tryz.prog 3 (plainElem Tryz.prog 3) B n D/\∀k:Nat,k<1000->∀z,D.atKey (.int .i64 (k:Int)) z=match f k with|some v=>.lit (.int .i64 v)|none=>z
def Ql.made(w:World):Ql (w.alloc (.map #[] 0)) w.heap.size 0 (fun _=>none):=⟨.map [],World.ownsMap_made _ _ _ _,fun k _ z=>rfl⟩
def Ql.kept{W W' B n f row}(h:Ql W B n f)(d:W.grownBy W' row)(c:some B≠row):Ql W' B n f:=by obtain⟨D,a,b⟩:=h;exact⟨D,a.kept d c,b⟩
def Ql.ext{W W' B n f}(h:Ql W B n f)(g:Ba W W'):Ql W' B n f:=by obtain⟨D,⟨b,a,e,c⟩,d⟩:=h;exact⟨D,⟨b,a,g.e e,c⟩,d⟩
def Ql.notCells{W B n f}(h:Ql W B n f){cs T b}:W.heap[B]?≠some (.cells cs T b):=by obtain⟨D,⟨d,a,c,_⟩,_⟩:=h;rw[c];intro e;cases e
def Ql.put{W B n f}(h:Ql W B n f)(m:n<maxLen){k:Nat}(l:k<1000){v}(hv:Bd 1000000 v):∃w',(Instr.mapUpdate 188 (.map (some B)) (.int .i64 (k:Int)) (.int .i64 v)).run Tryz.prog W = .ok () w'/\Ql w' B (n+1) (fun j=>if j=k then some v else f j)/\W.grownBy w' (some B):=by
 obtain⟨D,e,g⟩:=h;have o:(Lit.int .i64 v).wf=true:=WalkArith.wf_i64 (by unfold Bd at hv;omega);obtain⟨w',p,q,r⟩:=e.update Ut Tryz.underlying188 m (keyOf_int_mk Tryz.underlying3 (Ot l)) (plainElem_int Tryz.underlying3 o);have d:IsMap D:=by
  obtain⟨s,c,_,_,_,d⟩:=e;exact⟨_,d⟩
 refine⟨w',p,⟨_,q,fun j i z=>?_⟩,r⟩;by_cases a:j=k
 ·subst a;dsimp only;rw[if_pos rfl,atKey_put_same d (by first|trivial|exact True.intro|simp[b.IsKeyLit])]
 ·dsimp only;rw[if_neg a,atKey_put_other (by simp;omega)];exact g j i z
