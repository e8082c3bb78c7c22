import Derived.Test.YtgimcmpeceifnaaGreatDoorColA22
import Derived.Laws.StructEq
import Derived.Maps.Own
set_option maxRecDepth 1000000
set_option maxHeartbeats 16000000
set_option linter.all false
open Go.Value renaming int->O,slice->V
open Go.IntKind renaming i64->Y
open Option renaming none->Z,some->X
open Go renaming World->I,Value->J
namespace Go.Proofs.YtgimcmpeceifnaaGreatDoor.Cop
section
open Go.RowKit Go.Shelf Go.Sort Go.Lib
def YP(w:I)(f g:J)(k:Ja w f Ec)(l:Jd w g Ac)(b:Gw w):Calls Tryz.prog 11 #[.agg #[f,g],.agg (xg Yj)] w fun e i=>∃a c,e=.returned (.tuple #[V a 2 c,O Y 0])/\Re i (V a 2 c) [uo,Rm]/\Ba w i:=by
 refine(SF w f g Ec Ac Yj k l b).mono ?_;rintro e i (⟨h,_⟩|⟨_,v,L,n,rs,rfl,j,d,m⟩)
 ·exact absurd Dw h
 ·obtain⟨rfl,-⟩:=Pt d;obtain⟨a,c,rfl⟩:=j.form;exact⟨a,c,rfl,j,m⟩
def FN(w:I)(c d:J)(g:Ja w c Ec)(j:Jd w d Ac)(a:Gw w):Calls Tryz.prog 24 #[.agg #[c,d],.agg (xg Yj)] w fun e f=>∃v,e=.returned (.tuple #[v,O Y 0])/\Ae f v [0,0]/\Ba w f:=by
 refine(SO w c d Ec Ac Yj g j a).mono ?_;rintro e f (⟨h,_⟩|⟨_,v,L,l,rs,rfl,i,b,k⟩)
 ·exact absurd Dw h
 ·obtain⟨-,rfl⟩:=Pt b;exact⟨v,rfl,i,k⟩
def VQ(w:I)(L:Gw w):Calls Tryz.prog 9 #[] w fun e w'=>e=.returned (.bool true)/\Ba w w':=by have o:=Aa L;clear L;go_in;go_upto_region 2 with (first|(go_at_call 34;(with_reducible refine(Ox _).mono ?_);rintro e aw ⟨ao,ar,rfl,ah,al,R⟩;have r:Ba w aw:=(eR w).trans R)|(go_at_call 35;(with_reducible refine(Dz _).mono ?_);rintro e ax ⟨rfl,j⟩;have l:Ba w ax:=r.trans j)|(go_at_call 11;(with_reducible refine(YP _ ao ar (ah.f j) (al.f j) (o.o.ext l)).mono ?_);rintro e ad ⟨ja,aE,rfl,hj,ac⟩;have s:Ba w ad:=l.trans ac));go_upto_region 3 with (first|(go_at_call 34;(with_reducible refine(Ox _).mono ?_);rintro e ay ⟨ap,au,rfl,ai,am,p⟩;have t:Ba w ay:=s.trans p)|(go_at_call 35;(with_reducible refine(Dz _).mono ?_);rintro e az ⟨rfl,f⟩;have m:Ba w az:=t.trans f)|(go_at_call 24;(with_reducible refine(FN _ ap au (ai.f f) (am.f f) (o.o.ext m)).mono ?_);rintro e ae ⟨vr,rfl,hr,q⟩;have u:Ba w ae:=m.trans q));go_upto_region 4 with (first|(go_at_call 34;(with_reducible refine(Ox _).mono ?_);rintro e aA ⟨aq,av,rfl,aj,an,g⟩;have y:Ba w aA:=u.trans g)|(go_at_call 35;(with_reducible refine(Dz _).mono ?_);rintro e aB ⟨rfl,c⟩;have n:Ba w aB:=y.trans c)|(go_at_call 28;(with_reducible refine(GR _ aq av (aj.f c) (an.f c) (o.o.ext n)).mono ?_);rintro e a ⟨vc,rfl,hc,k⟩;have z:Ba w a:=n.trans k));have X3:Ba ad a:=((((p.trans f).trans q).trans g).trans c).trans k;have X2:Ba ae a:=(g.trans c).trans k;obtain⟨jb,jo,d,rfl,aD,ak,hd,b⟩:=Sl.at (hj.f X3) (i:=1) (x:=Rm) rfl;subst hd;have d0:=b 0 (O Y 2) rfl;have d1:=b 1 (O Y 3) rfl;have d2:=b 2 (O Y 200) rfl;have d3:=b 3 (O Y 200) rfl;have d4:=b 4 (O Y 80) rfl;have d5:=b 5 (O Y 160) rfl;simp only[Nat.add_zero,Nat.one_mul]at d0 d1 d2 d3 d4 d5;have af:=Aa (fun(W:I)(hW:Ba a W)(v:J)(h:Ae W v [0,0])=>jE W vr v [0,0] [0,0] ((hr.f X2).f hW) h);have ag:=Aa (fun(W:I)(hW:Ba a W)(v:J)(h:Ae W v [1,1,2,2,3])=>jE W vc v [1,1,2,2,3] [1,1,2,2,3] (hc.f hW) h);have E:=Aa z;clear b hj hr hc X3 X2 ak R j ac p f q g c k r l s t m u y n z;go_wp2_with(first|(go_at_call 26;(with_reducible refine(af.o _ ((eR a).alloc _) _ ((qC a 0 0 0 (Nat.zero_le _)).is)).mono ?_);rintro e aC ⟨rfl,aa⟩;have K:=((eR a).alloc (.cells #[O Y 0,O Y 0] 3)).trans aa)|(go_at_call 26;(with_reducible refine(ag.o _ (K.alloc _) _ (Wr aC rfl 1 1 2 2 3)).mono ?_);rintro e aF ⟨rfl,ab⟩));go_ret;exact⟨rfl,((E.o.trans K).alloc _).trans ab⟩
end
section
open Go.RowKit Go.Shelf Go.Sort Go.Lib
attribute [local go_sem] Oper.semAt_some
def Ck(j:Jt):List Int:=[j.fr,j.left,j.a,j.b]
def Rz(j:Jt):Array J:=#[O Y j.fr,O Y j.left,O Y j.a,O Y j.b]
def PC{p:Jt}{i:Nat}{x:Int}(h:(Ck p)[i]?=X x):(Rz p)[i]?=X (O Y x):=by
 match i,h with
 | 0,h=>cases h;rfl
 | 1,h=>cases h;rfl
 | 2,h=>cases h;rfl
 | 3,h=>cases h;rfl
 | i+4,h=>simp[Ck]at h
def IK{p q:Jt}{i:Nat}{x y:Int}(b:(Ck p)[i]?=X x)(c:(Ck q)[i]?=X y)(a:∀k u v,k<i->(Ck p)[k]?=X u->(Ck q)[k]?=X v->u=v)(d:x≠y):decide (x<y)=decide (Ug p q<0):=by
 rw[decide_eq_decide,Bo]
 match i,b,c,a with
 | 0,b,c,a=>cases b;cases c;omega
 | 1,b,c,a=>cases b;cases c;have:=a 0 _ _ oM rfl rfl;omega
 | 2,b,c,a=>cases b;cases c;have:=a 0 _ _ oM rfl rfl;have:=a 1 _ _ oM rfl rfl;omega
 | 3,b,c,a=>cases b;cases c;have:=a 0 _ _ oM rfl rfl;have:=a 1 _ _ oM rfl rfl;have:=a 2 _ _ oM rfl rfl;omega
 | i+4,b,c,a=>simp[Ck]at b
def PH{p q:Jt}(a:∀k u v,k<4->(Ck p)[k]?=X u->(Ck q)[k]?=X v->u=v):decide (Ug p q<0)=false:=by rw[decide_eq_false_iff_not,Bo];have b:=a 0 _ _ oM rfl rfl;have c:=a 1 _ _ oM rfl rfl;have d:=a 2 _ _ oM rfl rfl;have e:=a 3 _ _ oM rfl rfl;omega
def WV(w:I)(p q:Jt)(t5 a:J)(W:I):Prop:=∃b5 b6,t5=V (X ⟨b5,0,Z⟩) 4 4/\a=V (X ⟨b6,0,Z⟩) 4 4/\W.heap[b5]?=X (.cells (Rz p) 3 (0,0))/\W.heap[b6]?=X (.cells (Rz q) 3 (0,0))/\Ba w W
def VV(W0:I)(p q:Jt)(a:J)(W:I):Prop:=∃i:Nat,a=O Y i/\i<=4/\Ba W0 W/\∀k u v,k<i->(Ck p)[k]?=X u->(Ck q)[k]?=X v->u=v
def DR(w:I)(p q:Jt):Calls Tryz.prog 45 #[.agg (ij p),.agg (ij q)] w fun e w'=>e=.returned (.bool (decide (Ug p q<0)))/\Ba w w':=by
 unfold ij;go_in;go_upto_region 1 with fail;go_cut [5,6] (WV w p q)
 case first =>
  refine od [(⟨w.heap.size,0,Z⟩,O Y p.a),(⟨w.heap.size,1,Z⟩,O Y p.b),(⟨w.heap.size,2,Z⟩,O Y p.left),(⟨w.heap.size,3,Z⟩,O Y p.right),(⟨w.heap.size,4,Z⟩,O Y p.fr),(⟨w.heap.size,5,Z⟩,O Y p.til),(⟨w.heap.size+1,0,Z⟩,O Y q.a),(⟨w.heap.size+1,1,Z⟩,O Y q.b),(⟨w.heap.size+1,2,Z⟩,O Y q.left),(⟨w.heap.size+1,3,Z⟩,O Y q.right),(⟨w.heap.size+1,4,Z⟩,O Y q.fr),(⟨w.heap.size+1,5,Z⟩,O Y q.til)] cA fun c=>?_;refine Qa (i:=0) ?_;refine Qa (i:=1) ?_;refine Qa (i:=2) ?_;refine Qa (i:=3) ?_;refine Qa (i:=4) ?_;refine Qa (i:=5) ?_;refine Qa (i:=6) ?_;refine Qa (i:=7) ?_;refine Qa (i:=9) ?_;refine Qa (i:=10) ?_;refine Qa (i:=11) ?_;refine Qa (i:=12) ?_;refine Qa (i:=13) ?_;refine Qa (i:=14) ?_;refine Qa (i:=15) ?_;refine Qa (i:=16) ?_;refine nn (i:=8) (j:=17) (fun K f=>?f1) (fun K f=>?f2)
  case f1 =>
   go_simp;refine kO f (cE c ((eR _).alloc _)) (fun c=>?_);clear f K;refine Qa (i:=18) ?_;refine ye (i:=17) fun K f=>?_;go_simp;refine kO f (cE c ((eR _).alloc _)) (fun c=>?_);clear f K;refine Qa (i:=19) ?_;refine Tb ?_;go_wp2;go_meet;exact⟨_,_,rfl,rfl,((eR _).alloc _).drew.e (kc _ _ _ sM),(eR _).drew.e (kc _ _ _ sM),eA⟩
  case f2 =>
   go_simp;refine kO f (cE c ((eR _).alloc _)) (fun c=>?_);clear f K;refine ye (i:=8) fun K f=>?_;go_simp;refine kO f (cE c ((eR _).alloc _)) (fun c=>?_);clear f K;refine sN 18 ?_
   iterate 2 refine ub ?_
   refine oN ?_;refine Tb ?_;go_wp2;go_meet;exact⟨_,_,rfl,rfl,(eR _).drew.e (kc _ _ _ sM),((eR _).alloc _).drew.e (kc _ _ _ sM),eA⟩
 case rest =>
  obtain⟨z,L,rfl,rfl,W,K6,X1⟩:=hcut;have s:=Aa (And.intro W (And.intro K6 X1));clear W K6 X1;go_wp2;go_loopw [7] (VV wc p q) (fun t7 _=>4-(intOf t7).toNat)
  case atStart=>exact⟨0,rfl,by omega,eR _,fun k u v hk=>by omega⟩
  case round =>
   obtain⟨i,rfl,hi,t,l⟩:=hrel;have d:=Aa l;have HX:=Aa t;clear l;by_cases r:i<4
   ·obtain⟨x,n⟩:∃x,(Ck p)[i]?=X x:=⟨_,gE (show i<(Ck p).length from r)⟩;obtain⟨y,o⟩:∃x,(Ck q)[i]?=X x:=⟨_,gE (show i<(Ck q).length from r)⟩;have c5:=Da (t.e s.o.1) (PC n);have c6:=Da (t.e s.o.2.1) (PC o);have g:=Aa (And.intro n o);have g0:(0:Int)<=(i:Int):=oM;have g1:(i:Int)<4:=oM;clear n o t;by_cases m:x=y
    ·subst m;have e1:(x != x)=false:=sM;go_wp2;refine od [(⟨z,i,Z⟩,O Y x),(⟨L,i,Z⟩,O Y x)] cA fun c=>?_;refine Qa (i:=0) ?_;refine Qa (i:=1) ?_;refine Qa (i:=2) ?_;refine Qa (i:=3) ?_;refine Qa (i:=4) ?_;refine Qa (i:=5) ?_;refine Qa (i:=6) ?_;refine Qa (i:=7) ?_;refine Qa (i:=8) ?_;refine Tb ?_;go_wp2;go_roundw
     case rel =>
      refine⟨i+1,by go_num,by omega,HX.o.drew,fun k u v hk R hv=>?_⟩;by_cases h:k=i
      ·subst h;rw[g.o.1]at R;rw[g.o.2]at hv;cases R;cases hv;rfl
      ·exact d.o k u v oM R hv
     case measure=>simp[intOf];omega
    ·(have e1:(x != y)=true:=by simpa using m);have e2:=IK g.o.1 g.o.2 d.o m;have E2:=Aa e2;clear e2;go_wp2;refine od [(⟨z,i,Z⟩,O Y x),(⟨L,i,Z⟩,O Y y)] cA fun c=>?_;refine Qa (i:=0) ?_;refine Qa (i:=1) ?_;refine Qa (i:=2) ?_;refine Qa (i:=3) ?_;refine Qa (i:=4) ?_;refine Qa (i:=5) ?_;refine Qa (i:=6) ?_;refine Qa (i:=7) ?_;refine Qa (i:=8) ?_;refine Tb ?_;go_wp2;refine od [(⟨z,i,Z⟩,O Y x),(⟨L,i,Z⟩,O Y y)] (cE c (eR _).drew) fun c=>?_;refine Qa (i:=0) ?_;refine Qa (i:=1) ?_;refine Qa (i:=2) ?_;refine Qa (i:=3) ?_;refine Qa (i:=4) ?_;refine Qa (i:=5) ?_;refine Qa (i:=6) ?_;refine Qa (i:=7) ?_;refine Qa (i:=8) ?_;refine Qa (i:=9) ?_;refine Tb ?_;go_wp2;go_ret;exact⟨by rw[<-E2.o];rfl,s.o.2.2.trans HX.o.drew.drew⟩
   ·obtain rfl:i=4:=oM;have e:=Aa (PH d.o);go_wp2;go_ret;exact⟨by rw[e.o];rfl,s.o.2.2.trans HX.o⟩
def Qz{a b c:Bool}(h:b=false):(a&&(b&&c))=false:=by subst h;cases a<;>rfl
def Vt{a b c d:Bool}(h:c=false):(a&&(b&&(c&&d)))=false:=by subst h;cases a<;>cases b<;>rfl
def jp{b c d e:Bool}(h:(d&&e)=false):(true&&(b&&(c&&(d&&e))))=false:=by rw[h];cases b<;>cases c<;>rfl
def Ii{r:Ru}{ps:List Pl}{j:Jt}:Td (Pb r ps) j=true ↔ ∃k p,ps[k]?=X p/\(Nf r (Ib k p)&&Ih j (Ib k p))=true:=by
 unfold Td Pb;rw[List.any_eq_true];constructor
 ·rintro ⟨x,c,d⟩;obtain⟨c,e⟩:=List.mem_filter.1 c;obtain⟨k,a⟩:=List.mem_iff_getElem?.1 c;unfold Me at a;rw[List.getElem?_mapIdx,Option.map_eq_some_iff]at a;obtain⟨p,b,rfl⟩:=a;exact⟨k,p,b,by rw[e,d];rfl⟩
 ·rintro ⟨k,p,b,h⟩;rw[Bool.and_eq_true]at h;exact⟨Ib k p,List.mem_filter.2 ⟨lM (Wq b),h.1⟩,h.2⟩
def QV(W0:I)(r:Ru)(ps:List Pl)(j:Jt)(a:J)(W:I):Prop:=∃i:Nat,a=O Y i/\i<=ps.length/\Ba W0 W/\∀k p,k<i->ps[k]?=X p->(Nf r (Ib k p)&&Ih j (Ib k p))=false
def oO(w:I)(vg vp:J)(ps:List Pl)(r:Ru)(j:Jt)(hg:∃a n c,vg=V a n c)(hp:pf w vp ps)(aj:∀p∈ps,Ia p=true)(au:ps.length<=120):Calls Tryz.prog 44 #[.agg #[vg,vp],.agg (xg r),.agg (ij j)] w fun e w'=>e=.returned (.bool (Td (Pb r ps) j))/\Ba w w':=by
 obtain⟨ga,gn,gc,rfl⟩:=hg;have HP:=Aa hp;have aq:=Aa aj;obtain⟨pa,z,rfl⟩:=hp.form;obtain⟨n,hn⟩:=gX ps.length;rw[hn]at au ⊢;have K:=Aa hn;obtain⟨F,hF⟩:=gX (Td (Pb r ps) j);rw[hF];have HF:=Aa hF;clear hp aj hn hF;unfold xg ij;go_in;go_wp2;obtain⟨W1,t⟩:=gX ((((w.alloc (.cells #[V ga gn gc,V pa n z] 25)).alloc (.cells #[O .u8 r.skin,O Y r.pin,O Y r.wide,O Y r.lap,O Y r.step,O Y r.run,O Y r.level] 27)).alloc (.cells #[O Y j.a,O Y j.b,O Y j.left,O Y j.right,O Y j.fr,O Y j.til] 97)));have X1:Ba w W1:=by rw[<-t];exact(((eR _).alloc _).alloc _).alloc _
 have K2:W1.heap[w.heap.size]?=X (.cells #[V ga gn gc,V pa n z] 25 (0,0)):=by rw[<-t];exact(((eR _).alloc _).alloc _).e (aN w _)
 have K3:W1.heap[w.heap.size+1]?=X (.cells #[O .u8 r.skin,O Y r.pin,O Y r.wide,O Y r.lap,O Y r.step,O Y r.run,O Y r.level] 27 (0,0)):=by rw[<-t];exact((eR _).alloc _).e (kc _ _ _ sM)
 have K4:W1.heap[w.heap.size+1+1]?=X (.cells #[O Y j.a,O Y j.b,O Y j.left,O Y j.right,O Y j.fr,O Y j.til] 97 (0,0)):=by rw[<-t];exact kc _ _ _ sM
 have C1:Ea [(⟨w.heap.size,1,Z⟩,V pa n z),(⟨w.heap.size+1,0,Z⟩,O .u8 r.skin),(⟨w.heap.size+1+1,0,Z⟩,O Y j.a),(⟨w.heap.size+1+1,1,Z⟩,O Y j.b),(⟨w.heap.size+1+1,2,Z⟩,O Y j.left),(⟨w.heap.size+1+1,3,Z⟩,O Y j.right),(⟨w.heap.size+1+1,4,Z⟩,O Y j.fr),(⟨w.heap.size+1+1,5,Z⟩,O Y j.til)] W1:=
  ⟨Da K2 (i:=1) rfl,Da K3 (i:=0) rfl,Da K4 (i:=0) rfl,Da K4 (i:=1) rfl,Da K4 (i:=2) rfl,Da K4 (i:=3) rfl,Da K4 (i:=4) rfl,Da K4 (i:=5) rfl,trivial⟩
 obtain⟨s,hs⟩:=gX w.heap.size;rw[t];simp only[hs]at C1 ⊢;have aa:=Aa X1;have ao:=Aa C1;clear X1 C1 t hs K2 K3 K4;go_loopw [7] (QV W1 r ps j) (fun t7 _=>n-(intOf t7).toNat)
 case atStart=>exact⟨0,rfl,by omega,eR _,fun k p R=>by omega⟩
 case round =>
  obtain⟨i,rfl,hi,hx,L⟩:=hrel;rw[K.o]at hi;have d:=Aa L;have HX:=Aa hx;obtain⟨c1,k0,j0,j1,j2,j3,j4,j5,-⟩:=cE ao.o hx;clear L;by_cases ar:i<n
  ·obtain⟨p,y⟩:∃p,ps[i]?=X p:=⟨_,gE (by rw[K.o];exact ar)⟩;obtain⟨b,o,v,rfl,hb,hv,av,u⟩:=(HP.o.f (aa.o.trans hx)).at' y;have ak:=aq.o p (lM y);have HE:=Aa (fun W (hW:Ba wr W)=>py W v p (hv.f hW) ak);have HI:=Aa (fun W=>Ey W p v r.skin (by obtain⟨a,n,c,e⟩:=hv.i;exact⟨a,n,c,e⟩));have l:=Aa y;obtain⟨sa,sn,sc,rfl⟩:=hv.i;have x:(Nf r (Ib i p)&&Ih j (Ib i p))=((p.skin==r.skin || p.skin==3)&&(((i:Int) != j.a)&&(((i:Int) != j.b)&&(Xj (pd Prod.snd (Ca p)).1 (pd Prod.snd (Ca p)).2 j.fr j.til&&Xj (pd Prod.fst (Ca p)).1 (pd Prod.fst (Ca p)).2 j.left j.right)))):=rfl;obtain⟨xl,af⟩:=gX ((pd Prod.fst (Ca p)).1);obtain⟨xh,ae⟩:=gX ((pd Prod.fst (Ca p)).2);obtain⟨zl,ai⟩:=gX ((pd Prod.snd (Ca p)).1);obtain⟨zh,ah⟩:=gX ((pd Prod.snd (Ca p)).2);rw[af,ae,ai,ah]at x;simp only[af,ae,ai,ah]at HE;obtain⟨kb,ab⟩:=gX ((p.skin==r.skin || p.skin==3));obtain⟨zb,ag⟩:=gX (Xj zl zh j.fr j.til);obtain⟨xb,ad⟩:=gX (Xj xl xh j.left j.right);rw[ab,ag,ad]at x;rw[ab]at HI;have HZ:=Aa ag;have ap:=Aa ad;have g:=Aa x;have g0:(0:Int)<=(i:Int):=oM;have g1:(i:Int)<(n:Int):=oM;unfold Dd at u HE HI;have d0:=u 0 (.string p.name) rfl;have d1:=u 1 (V sa sn sc) rfl;have d2:=u 2 (O Y p.depth) rfl;have d3:=u 3 (O Y p.density) rfl;have d4:=u 4 (O Y p.gx) rfl;have d5:=u 5 (O Y p.gz) rfl;have d6:=u 6 (O Y p.way) rfl;have d7:=u 7 (O Y p.ax) rfl;have d8:=u 8 (O Y p.az) rfl;have d9:=u 9 (O .u8 p.skin) rfl;simp only[Nat.add_zero]at d0;clear af ae ai ah ab ag ad x u y ak hv av hx;go_upto_region 5 with (go_at_call 43;refine cM (HE.o _ (eR _)) ?_;rintro e w2 ⟨rfl,ac⟩);have C2:Ea [(⟨s,1,Z⟩,V (X ⟨b,o,Z⟩) n z),(⟨s+1,0,Z⟩,O .u8 r.skin),(⟨s+1+1,0,Z⟩,O Y j.a),(⟨s+1+1,1,Z⟩,O Y j.b),(⟨s+1+1,2,Z⟩,O Y j.left),(⟨s+1+1,3,Z⟩,O Y j.right),(⟨s+1+1,4,Z⟩,O Y j.fr),(⟨s+1+1,5,Z⟩,O Y j.til),(⟨b,o+i*10,Z⟩,.string p.name),(⟨b,o+i*10+1,Z⟩,V sa sn sc),(⟨b,o+i*10+2,Z⟩,O Y p.depth),(⟨b,o+i*10+3,Z⟩,O Y p.density),(⟨b,o+i*10+4,Z⟩,O Y p.gx),(⟨b,o+i*10+5,Z⟩,O Y p.gz),(⟨b,o+i*10+6,Z⟩,O Y p.way),(⟨b,o+i*10+7,Z⟩,O Y p.ax),(⟨b,o+i*10+8,Z⟩,O Y p.az),(⟨b,o+i*10+9,Z⟩,O .u8 p.skin)] w2:=
    cE ⟨c1,k0,j0,j1,j2,j3,j4,j5,d0,d1,d2,d3,d4,d5,d6,d7,d8,d9,trivial⟩ ac
   have X2:Ba wr w2.drew:=ac.drew;clear c1 k0 j0 j1 j2 j3 j4 j5 d0 d1 d2 d3 d4 d5 d6 d7 d8 d9 HE;refine od _ (cE C2 (eR _).drew) fun m=>?_;clear C2 ac;by_cases hA:(i:Int)=j.a
   ·(have e1:((i:Int) != j.a)=false:=by simpa using hA);clear hA;refine Qa (i:=0) ?_;refine Qa (i:=1) ?_;refine Qa (i:=2) ?_;refine Qa (i:=3) ?_;refine Qa (i:=4) ?_;refine Sa (i:=5) ?_;refine Sa (i:=6) ?_;refine Sa (i:=7) ?_;refine Sa (i:=8) ?_;refine Qa (i:=9) ?_;refine Qa (i:=10) ?_;refine Sa (i:=11) ?_;refine Sa (i:=12) ?_;refine Sa (i:=13) ?_;refine Sa (i:=14) ?_;refine Sa (i:=15) ?_;refine Sa (i:=16) ?_;refine Sa (i:=17) ?_;refine Sa (i:=18) ?_;refine Qa (i:=19) ?_;refine Qa (i:=20) ?_;refine Sa (i:=21) ?_;refine Sa (i:=22) ?_;refine Sa (i:=23) ?_;refine Sa (i:=24) ?_;refine Sa (i:=25) ?_;refine Sa (i:=26) ?_;refine Sa (i:=27) ?_;refine Qa (i:=28) ?_;refine Qa (i:=29) ?_;refine Sa (i:=30) ?_;refine Sa (i:=31) ?_;refine Sa (i:=32) ?_;refine Sa (i:=33) ?_;refine Sa (i:=34) ?_;refine Sa (i:=35) ?_;refine Sa (i:=36) ?_;refine Qa (i:=37) ?_;have e2:=e1;refine Tb ?_;go_wp2;go_roundw
    case rel =>
     refine⟨i+1,by go_num,by rw[K.o];omega,HX.o.trans (X2),fun k q R f=>?_⟩;by_cases h:k=i
     ·subst h;rw[l.o]at f;cases f;rw[g.o];exact Qz e2
     ·exact d.o k q oM f
    case measure=>simp[intOf];omega
   have e1:((i:Int) != j.a)=true:=by simpa using hA
   clear hA;by_cases hB:(i:Int)=j.b
   ·(have e2:((i:Int) != j.b)=false:=by simpa using hB);clear hB;refine Qa (i:=0) ?_;refine Qa (i:=1) ?_;refine Qa (i:=2) ?_;refine Qa (i:=3) ?_;refine Qa (i:=4) ?_;refine Qa (i:=5) ?_;refine Qa (i:=6) ?_;refine Qa (i:=7) ?_;refine Qa (i:=8) ?_;refine Qa (i:=9) ?_;refine Qa (i:=10) ?_;refine Sa (i:=11) ?_;refine Sa (i:=12) ?_;refine Sa (i:=13) ?_;refine Sa (i:=14) ?_;refine Sa (i:=15) ?_;refine Sa (i:=16) ?_;refine Sa (i:=17) ?_;refine Sa (i:=18) ?_;refine Qa (i:=19) ?_;refine Qa (i:=20) ?_;refine Sa (i:=21) ?_;refine Sa (i:=22) ?_;refine Sa (i:=23) ?_;refine Sa (i:=24) ?_;refine Sa (i:=25) ?_;refine Sa (i:=26) ?_;refine Sa (i:=27) ?_;refine Qa (i:=28) ?_;refine Qa (i:=29) ?_;refine Sa (i:=30) ?_;refine Sa (i:=31) ?_;refine Sa (i:=32) ?_;refine Sa (i:=33) ?_;refine Sa (i:=34) ?_;refine Sa (i:=35) ?_;refine Sa (i:=36) ?_;refine Qa (i:=37) ?_;have e3:=e1;have e4:=e2;refine Tb ?_;go_wp2;go_roundw
    case rel =>
     refine⟨i+1,by go_num,by rw[K.o];omega,HX.o.trans (X2),fun k q R f=>?_⟩;by_cases h:k=i
     ·subst h;rw[l.o]at f;cases f;rw[g.o];exact Vt e4
     ·exact d.o k q oM f
    case measure=>simp[intOf];omega
   have e2:((i:Int) != j.b)=true:=by simpa using hB
   clear hB;have e3:=e1;have e4:=e2;refine Qa (i:=0) ?_;refine Qa (i:=1) ?_;refine Qa (i:=2) ?_;refine Qa (i:=3) ?_;refine Qa (i:=4) ?_;refine Qa (i:=5) ?_;refine Qa (i:=6) ?_;refine Qa (i:=7) ?_;refine Qa (i:=8) ?_;refine Qa (i:=9) ?_;refine Qa (i:=10) ?_;refine Qa (i:=11) ?_;refine Qa (i:=12) ?_;refine Qa (i:=13) ?_;refine Qa (i:=14) ?_;refine Qa (i:=15) ?_;refine Qa (i:=16) ?_;refine Qa (i:=17) ?_;refine mc (i:=18) (HI.o _) ?_;rintro e w3 ⟨rfl,al⟩;refine⟨_,rfl,(cE m al),fun m=>?_⟩;have X3:=X2.trans al;cases kb with
   |false=>
    refine Qa (i:=19) ?_;refine Qa (i:=20) ?_;refine Sa (i:=21) ?_;refine Sa (i:=22) ?_;refine Sa (i:=23) ?_;refine Sa (i:=24) ?_;refine Sa (i:=25) ?_;refine Sa (i:=26) ?_;refine Sa (i:=27) ?_;refine Qa (i:=28) ?_;refine Qa (i:=29) ?_;refine Sa (i:=30) ?_;refine Sa (i:=31) ?_;refine Sa (i:=32) ?_;refine Sa (i:=33) ?_;refine Sa (i:=34) ?_;refine Sa (i:=35) ?_;refine Sa (i:=36) ?_;refine Qa (i:=37) ?_;refine Tb ?_;go_wp2;go_roundw
    case rel =>
     refine⟨i+1,by go_num,by rw[K.o];omega,HX.o.trans (X3),fun k q R f=>?_⟩;by_cases h:k=i
     ·subst h;rw[l.o]at f;cases f;rw[g.o];rfl
     ·exact d.o k q oM f
    case measure=>simp[intOf];omega
   |true=>
    refine Qa (i:=19) ?_;refine Qa (i:=20) ?_;refine Qa (i:=21) ?_;refine Qa (i:=22) ?_;refine Qa (i:=23) ?_;refine Qa (i:=24) ?_;refine Qa (i:=25) ?_;refine Qa (i:=26) ?_;refine mc (i:=27) (ZA _ zl zh j.fr j.til) ?_;rintro e w4 ⟨rfl,am⟩;(rw[HZ.o]);refine⟨_,rfl,(cE m am),fun m=>?_⟩;have X4:=X3.trans am;cases zb with
    |false=>
     refine Qa (i:=28) ?_;refine Qa (i:=29) ?_;refine Sa (i:=30) ?_;refine Sa (i:=31) ?_;refine Sa (i:=32) ?_;refine Sa (i:=33) ?_;refine Sa (i:=34) ?_;refine Sa (i:=35) ?_;refine Sa (i:=36) ?_;refine Qa (i:=37) ?_;refine Tb ?_;go_wp2;go_roundw
     case rel =>
      refine⟨i+1,by go_num,by rw[K.o];omega,HX.o.trans (X4),fun k q R f=>?_⟩;by_cases h:k=i
      ·subst h;rw[l.o]at f;cases f;rw[g.o];exact jp rfl
      ·exact d.o k q oM f
     case measure=>simp[intOf];omega
    |true=>
     refine Qa (i:=28) ?_;refine Qa (i:=29) ?_;refine Qa (i:=30) ?_;refine Qa (i:=31) ?_;refine Qa (i:=32) ?_;refine Qa (i:=33) ?_;refine Qa (i:=34) ?_;refine Qa (i:=35) ?_;refine mc (i:=36) (ZA _ xl xh j.left j.right) ?_;rintro e w5 ⟨rfl,an⟩;(rw[ap.o]);refine⟨_,rfl,(cE m an),fun m=>?_⟩;have X5:=X4.trans an;cases xb with
     |false=>
      refine Qa (i:=37) ?_;refine Tb ?_;go_wp2;go_roundw
      case rel =>
       refine⟨i+1,by go_num,by rw[K.o];omega,HX.o.trans (X5),fun k q R f=>?_⟩;by_cases h:k=i
       ·subst h;rw[l.o]at f;cases f;rw[g.o];exact jp rfl
       ·exact d.o k q oM f
      case measure=>simp[intOf];omega
     |true=>
      refine Qa (i:=37) ?_;refine Tb ?_;(have e:F=true:=by rw[<-HF.o];exact Ii.2 ⟨i,p,l.o,by rw[g.o,e3,e4];rfl⟩);subst e;go_wp2;go_ret;exact⟨rfl,aa.o.trans (HX.o.trans X5)⟩
  ·obtain rfl:i=n:=oM;have e:F=false:=by
    cases F with
    | false=>rfl
    |true=>
     obtain⟨k,p,R,h⟩:=Ii.1 HF.o;have:=d.o k p (by have:=(lS.1 R).1;rw[K.o]at this;exact this) R;rw[this]at h;cases h
   subst e;go_wp2;go_ret;exact⟨rfl,aa.o.trans HX.o⟩
end
section
open Go.RowKit Go.Shelf Go.Sort Go.Lib Go.Maps
attribute [local go_sem] Oper.semAt_some
def Jl(W:World)(B n:Nat)(f:Nat->Option Int):Prop:=
 ∃D:DataW Unit,W.ownsMap Tryz.prog 3 (plainElem Tryz.prog 3) B n D/\∀k:Nat,k<1000->∀z,D.atKey (.int .i64 (k:Int)) z=match f k with|some v=>.lit (.int .i64 v)|none=>z
def Jl.made(w:World):Jl (w.alloc (.map #[] 0)) w.heap.size 0 (fun _=>none):=⟨.map [],World.ownsMap_made _ _ _ _,fun k _ z=>rfl⟩
def Jl.kept{W W':World}{B n:Nat}{f:Nat->Option Int}{row:Option Nat}(h:Jl W B n f)(d:W.grownBy W' row)(c:some B≠row):Jl W' B n f:=by obtain⟨D,a,b⟩:=h;exact⟨D,a.kept d c,b⟩
def Jl.ext{W W':World}{B n:Nat}{f:Nat->Option Int}(h:Jl W B n f)(g:Ba W W'):Jl W' B n f:=by obtain⟨D,⟨b,a,e,c⟩,d⟩:=h;exact⟨D,⟨b,a,g.e e,c⟩,d⟩
def Jl.notCells{W:World}{B n:Nat}{f:Nat->Option Int}(h:Jl W B n f){cs:Array Value}{T:TypeId}{b:Nat×Nat}:W.heap[B]?≠some (.cells cs T b):=by obtain⟨D,⟨d,a,c,_⟩,_⟩:=h;rw[c];intro e;cases e
def Jl.put{W:World}{B n:Nat}{f:Nat->Option Int}(h:Jl W B n f)(m:n<maxLen){k:Nat}(l:k<1000){v:Int}(hv:Bd 1000000 v):∃w',(Instr.mapUpdate 188 (.map (some B)) (.int .i64 (k:Int)) (.int .i64 v)).run Tryz.prog W = .ok () w'/\Jl w' B (n+1) (fun j=>if j=k then some v else f j)/\W.grownBy w' (some B):=by
 obtain⟨D,e,g⟩:=h;have o:(Lit.int .i64 v).wf=true:=WalkArith.wf_i64 (by unfold Bd at hv;omega);obtain⟨w',p,q,r⟩:=e.update Kt Tryz.underlying188 m (keyOf_int_mk Tryz.underlying3 (Bt l)) (plainElem_int Tryz.underlying3 o);have d:IsMap D:=by
  obtain⟨s,c,_,_,_,d⟩:=e;exact⟨_,d⟩
 refine⟨w',p,⟨_,q,fun j i z=>?_⟩,r⟩;by_cases a:j=k
 ·subst a;dsimp only;rw[if_pos rfl,atKey_put_same d (by first|trivial|exact True.intro|simp[b.IsKeyLit])]
 ·dsimp only;rw[if_neg a,atKey_put_other (by simp;omega)];exact g j i z
