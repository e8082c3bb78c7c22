import Derived.Test.YtjnjpagegkcgfaaGreatDoorCobA15
import Derived.Test.YtjnjpagegkcgfaaGreatDoorRows
import Derived.Test.YtjnjpagegkcgfaaGreatDoorCards
import Derived.Test.YtjnjpagegkcgfaaGreatDoorTie
import Derived.LaidMore
import Derived.Lay
import Derived.Stop.Joined
import Derived.OpenShut
import Derived.SevenTiedAt
set_option maxRecDepth 1000000
set_option maxHeartbeats 16000000
set_option linter.all false
open Go.Value renaming int->O,slice->Z,agg->E
open Go.IntKind renaming i64->Y,u8->N
open Option renaming none->X,some->J
open Go renaming Value->V,World->M
open Go.Obj renaming cells->I
namespace Go.Proofs.YtjnjpagegkcgfaaGreatDoor.Cop
section
open Go Go.ChangeShapes Go.WideShapes Go.ChangeAt Go.RowKit
def uK:ownKnob Tryz.prog.godebug=none:=kM
def Zo:Tryz.prog.globalNamed "copestone/stone.ways" = some 0:=kM
def Wo:(Tryz.prog.globals[0]?).map (·.type)=some 264:=kM
def KK:Tryz.prog.underlying 264=some (.array 4 263):=kM
def Nt:Tryz.prog.underlying 263=some (.func #[43] #[43] false):=kM
def Kv:laidOutB Tryz.prog=true:=kM
abbrev Aj:List (String×DataW Unit):=[("unicode/utf8.acceptRanges",Rows.laid_unicode_utf8_acceptRanges),("copestone/stone.ways",Rows.laid_copestone_stone_ways),("unicode/utf8.first",Rows.laid_unicode_utf8_first)]
abbrev Lr:List (String×DataW Unit):=[("unicode/utf8.acceptRanges",Rows.laid_unicode_utf8_acceptRanges),("unicode/utf8.first",Rows.laid_unicode_utf8_first)]
def qO{W:World}(h:laidMetH Tryz.prog Aj W):Gw W:=by
 obtain⟨g,t,a,fuel,p,c,q,hv,o⟩:=h.funcs (mC _ (List.mem_cons_self ..));obtain rfl:=Option.some.inj (Zo.symm.trans c);obtain rfl:=Option.some.inj (Wo.symm.trans q);have d:DataW.trod (funcToken Tryz.prog) Tryz.prog W 0 (fun _=>true) true fuel 264 a.toList=some (.agg [.held [99,111,112,101,115,116,111,110,101,47,115,116,111,110,101,46,119,97,121,115,36,49],.held [99,111,112,101,115,116,111,110,101,47,115,116,111,110,101,46,119,97,121,115,36,50],.held [99,111,112,101,115,116,111,110,101,47,115,116,111,110,101,46,119,97,121,115,36,51],.held [99,111,112,101,115,116,111,110,101,47,115,116,111,110,101,46,119,97,121,115,36,52]],p):=o;obtain⟨K,m,_,k,j,f,b⟩:=DataW.trod_array KK d;have l:Tryz.prog.cellsOf 263=1:=kM;have n:Tryz.prog.cellsOf 264=4:=kM;rw[n]at j;rw[l]at b;obtain⟨a⟩:=a;have e:a.length=4:=j
 match a,e,K,f with
 | [T,v1,v2,v3],_,[⟨y0,P⟩,⟨y1,Q⟩,⟨y2,R⟩,⟨y3,S⟩],_ =>
  simp only[Prod.mk.injEq,List.map_cons,List.map_nil,DataW.agg.injEq,List.cons.injEq,and_true]at k;obtain⟨⟨rfl,rfl,rfl,rfl⟩,_⟩:=k;have w:=b 0 oM;have x:=b 1 oM;have y:=b 2 oM;have z:=b 3 oM;have r:=World.var?_cell c hv 0;have s:=World.var?_cell c hv 1;have u:=World.var?_cell c hv 2;have v:=World.var?_cell c hv 3;obtain rfl:=func_of_trod (f0:=327) Nt kM w;obtain rfl:=func_of_trod (f0:=328) Nt kM x;obtain rfl:=func_of_trod (f0:=329) Nt kM y;obtain rfl:=func_of_trod (f0:=330) Nt kM z;have i:W.cell? ⟨0,0,none⟩=some (.func (.func 327) #[] #[]):=by simpa using r
  exact⟨World.block_lt_of_cell? W _ (by rw[i]),i,by simpa using s,by simpa using u,by simpa using v⟩
noncomputable def YE(os:Os):World:=(World.doorLaid Tryz.prog 14 os).layVars Tryz.prog Lr
def xG(os:Os)(args:Array Value):laidMetH Tryz.prog Aj ((YE os).forCall (fun _ _=>0) ⟨#[],args,[]⟩).memory:=by
 refine laidMetH_of_parts3 (fuel:=8) ?_ kM kM
 exact laidMet_layVars (w0:=World.doorLaid Tryz.prog 14 os) ["unicode/utf8.acceptRanges", "unicode/utf8.first"] [] (by rfl) kM kM LaidIn.none
def xq{k:IntKind}{n:Int}(h:(Lit.int k n).wf=true):k.min<=n/\n<=k.max:=by unfold Lit.wf at h;simp only[Bool.and_eq_true,decide_eq_true_eq]at h;exact h
end
section
open Go.RowKit Go.Shelf Go.Sort Go.Lib
attribute [local go_sem] Oper.semAt_some
end
section
open Go.RowKit Go.Shelf Go.Sort
def ZO(w:M)(r:ByteArray)(v:V)(Q:LP)(d k l m y s t x:Int)(h:yb w v Q)(S:Q.length<=1000):Calls Tryz.prog 12 #[E #[.string r,v,O Y d,O Y k,O Y l,O Y m,O Y y,O Y s,O Y t,O N x]] w fun e w'=>∃v',e=.returned (E #[.string r,v',O Y d,O Y k,O Y l,O Y m,O Y y,O Y s,O Y t,O N x])/\Ja w' v' Q/\Ba w w'/\∀j,v'.ownBlock=J j->w.heap.size<=j:=by
 have HP:=Aa (fun W (hW:Ba w W)=>WK W r v Q d k l m (h.f hW) S);obtain⟨a,n,c,rfl⟩:=h.i;clear h;go_in;go_wp2;refine Kc [(⟨w.heap.size,0,X⟩,.string r),(⟨w.heap.size,1,X⟩,Z a n c),(⟨w.heap.size,2,X⟩,O Y d),(⟨w.heap.size,3,X⟩,O Y k),(⟨w.heap.size,4,X⟩,O Y l),(⟨w.heap.size,5,X⟩,O Y m),(⟨w.heap.size,6,X⟩,O Y y),(⟨w.heap.size,7,X⟩,O Y s),(⟨w.heap.size,8,X⟩,O Y t),(⟨w.heap.size,9,X⟩,O N x)] cA fun g=>?_;refine sN 0 ?_
 iterate 2 refine xb ?_
 refine oN ?_;refine sN 3 ?_
 iterate 11 refine xb ?_
 refine oN ?_;refine Ub (i:=2) (HP.o _ eA) ?_;rintro e w3 ⟨v3,rfl,P,o,T⟩;obtain⟨a3,n3,c3,rfl⟩:=La P;refine⟨_,rfl,(cE g o),fun g=>?_⟩;refine Db (i:=14) ?_;have f:=o.e (Fw w (I #[.string r,Z a n c,O Y d,O Y k,O Y l,O Y m,O Y y,O Y s,O Y t,O N x] 31) (I #[.string ⟨#[]⟩,Z X 0 0,O Y 0,O Y 0,O Y 0,O Y 0,O Y 0,O Y 0,O Y 0,O N 0] 47));have k0:=Ca f (i:=0) (u:=.string ⟨#[]⟩) rfl;have k1:=Ca f (i:=1) (u:=Z X 0 0) rfl;have k2:=Ca f (i:=2) (u:=O Y 0) rfl;have k3:=Ca f (i:=3) (u:=O Y 0) rfl;have k4:=Ca f (i:=4) (u:=O Y 0) rfl;have k5:=Ca f (i:=5) (u:=O Y 0) rfl;have k6:=Ca f (i:=6) (u:=O Y 0) rfl;have k7:=Ca f (i:=7) (u:=O Y 0) rfl;have k8:=Ca f (i:=8) (u:=O Y 0) rfl;have k9:=Ca f (i:=9) (u:=O N 0) rfl;have kf:=Ua f;have b:=Aa (show ∀q∈[((⟨w.heap.size,0,X⟩:Addr),Value.string r),(⟨w.heap.size,1,X⟩,Z a n c),(⟨w.heap.size,2,X⟩,O Y d),(⟨w.heap.size,3,X⟩,O Y k),(⟨w.heap.size,4,X⟩,O Y l),(⟨w.heap.size,5,X⟩,O Y m),(⟨w.heap.size,6,X⟩,O Y y),(⟨w.heap.size,7,X⟩,O Y s),(⟨w.heap.size,8,X⟩,O Y t),(⟨w.heap.size,9,X⟩,O N x)],w.heap.size+1≠q.1.block from fun q hq h=>by
  simp at hq;rcases hq with rfl|rfl|rfl|rfl|rfl|rfl|rfl|rfl|rfl|rfl<;>(dsimp only at h;omega))
 have R:Ba w w3:=((((eR w).alloc _).alloc _).drew).trans o;have z:=Aa f;clear f;refine Ld (i:=15) fun K hK=>?_;go_simp;refine kO hK (Da.set (p:=⟨w.heap.size+1,9,X⟩) (Da.set (p:=⟨w.heap.size+1,8,X⟩) (Da.set (p:=⟨w.heap.size+1,7,X⟩) (Da.set (p:=⟨w.heap.size+1,6,X⟩) (Da.set (p:=⟨w.heap.size+1,5,X⟩) (Da.set (p:=⟨w.heap.size+1,4,X⟩) (Da.set (p:=⟨w.heap.size+1,3,X⟩) (Da.set (p:=⟨w.heap.size+1,2,X⟩) (Da.set (p:=⟨w.heap.size+1,1,X⟩) (Da.set (p:=⟨w.heap.size+1,0,X⟩) g b.o _) b.o _) b.o _) b.o _) b.o _) b.o _) b.o _) b.o _) b.o _) b.o _) (fun g=>?_);clear hK K;refine Wb ?_;go_wp2;have ab:=Gb z.o;have aa:Ja w3 (Z a3 n3 c3) Q:=P;have n0:ld 43 w3 (w.heap.size+1):=by intro cs fr e;rw[z.o]at e;cases e
 refine bR (v:=E #[.string r,Z a3 n3 c3,O Y d,O Y k,O Y l,O Y m,O Y y,O Y s,O Y t,O N x]) (by simp[results,Tryz.results12,go_sem,k0,k1,k2,k3,k4,k5,k6,k7,k8,k9,kf]) rfl ⟨_,rfl,?_,?_,fun j hj=>by have:=T j hj;simp only[wZ,Cc]at this;omega⟩
 ·refine aa.z ?_
  repeat(first|with_reducible exact Ia.refl _ _|(with_reducible refine Ia.x ?_ ?_ _)|with_reducible exact n0|with_reducible refine ld.set ?_ _ _)
 ·repeat(first|with_reducible exact R|(with_reducible refine Ba.set ?_ dO _))
def Cm.keep{w w':M}{c:List V}{p:Pl}(h:Cm w c p)(k:Ia 43 w w'):Cm w' c p:=by obtain⟨v,a,b,d⟩:=h;exact⟨v,a,b.z k,d⟩
def Ka.ne_blkD{T T':TypeId}{k:Nat}{w:M}{base:Nat}{v:V}{cs:List (List V)}(h:Ka T k w base v cs){b:Nat}{c:Array V}{d:Nat×Nat}(a:w.heap[b]?=J (I c T' d))(i:T'≠T):v.ownBlock≠J b:=by
 intro e;rcases h.2.2 with ⟨f,_⟩|⟨g,cap,cur,hv,_,j,_⟩
 ·rw[f]at e;cases e
 ·rw[hv]at e;cases e;rw[j]at a;cases a;exact i rfl
def AH:(Tryz.prog.info? 47).map (fun i=>(i.zero,i.size,i.bytes))=J (J (E #[.string ⟨#[]⟩,Z X 0 0,O Y 0,O Y 0,O Y 0,O Y 0,O Y 0,O Y 0,O Y 0,O N 0]),10,104):=kM
def Jo(L:Nat)(c:List V):Prop:=∀j,(c.getD 1 (.bool false)).ownBlock=J j->L<=j
def qj(w:M)(base L:Nat)(v:V)(ps:List Pl):Prop:=∃cs,Ka 47 10 w base v cs/\cs.length=ps.length/\(∀(i:Nat) c p,cs[i]?=J c->ps[i]?=J p->Cm w c p)/\∀c∈cs,Jo L c
def qj.own{w:M}{base L:Nat}{v:V}{ps:List Pl}(h:qj w base L v ps):Lk w base v ps:=by obtain⟨a,b,c,d,_⟩:=h;exact⟨a,b,c,d⟩
def sQ(w e:M)(a:Nat)(f k v3:V)(ps:List Pl)(g:Nat)(t4:V)(W:M):Prop:=
 ∃(i:Nat)(d:V)(b:List (List V)),i<=ps.length/\t4=O Y (i:Nat)/\g=ps.length-i/\e.grownBy W (J a)/\W.heap[a]?=J (I #[v3,d] 41 (0,0))/\
  Ka 47 10 W (a+1) d b/\b.length=i/\(∀(j:Nat) c p,b[j]?=J c->ps[j]?=J p->Cm W c p)/\∀c∈b,Jo a c
def KL(w:M)(vg vp:V)(g:LP)(ps:List Pl)(hg:yb w vg g)(hp:Ff w vp ps)(a0:g.length<=1000)(aD:ps.length<=1000)(aE:∀p∈ps,p.shape.length<=1000):Calls Tryz.prog 11 #[E #[vg,vp]] w fun e w'=>∃vg' vp' L,e=.returned (E #[vg',vp'])/\Ka 43 2 w' w.heap.size vg' (g.map pc)/\(∀j,vg'.ownBlock=J j->j<L)/\qj w' w.heap.size L vp' ps/\Ba w w':=by
 have aP:=Aa (fun W (hW:Ba w W)=>uD W vg g (hg.f hW) a0);obtain⟨ga,gn,gc,rfl⟩:=hg.i;obtain⟨pa,pn,ae,rfl⟩:=hp.i;have Hn:=Aa hp.len.symm;have Hp:=Aa hp;have aV:=Aa aE;have bs:pn<=1000:=by rw[hp.len];exact aD
 obtain⟨R,hR⟩:∃R:Ending->M->Prop,(fun e w'=>∃vg' vp' L,e=.returned (E #[vg',vp'])/\Ka 43 2 w' w.heap.size vg' (g.map pc)/\(∀j,vg'.ownBlock=J j->j<L)/\qj w' w.heap.size L vp' ps/\Ba w w')=R:=⟨_,rfl⟩;rw[hR];have HR:=Aa hR;clear hg hp hR aE aD;go_in;go_wp2_with(go_at_call 62;refine cM (aP.o _ eA) ?_;rintro e w3 ⟨v3,rfl,s,ak⟩;obtain⟨a3,n3,c3,rfl⟩:=s.i);have K0:=ak.e (OK w (I #[Z ga gn gc,Z pa pn ae] 25) (I #[Z X 0 0,Z X 0 0] 41));have K1:=ak.e (Fw w (I #[Z ga gn gc,Z pa pn ae] 25) (I #[Z X 0 0,Z X 0 0] 41));obtain⟨b3,ag⟩:=gX w3.heap.size;obtain⟨w4,ac⟩:=gX (w3.alloc (I #[Z a3 n3 c3,Z X 0 0] 41));have aa:Ba w3 w4:=by rw[<-ac];exact(eR w3).alloc _
 have a8:w4.heap.size=b3+1:=by rw[<-ac];simp[ag]
 have au:w4.heap[b3]?=J (I #[Z a3 n3 c3,Z X 0 0] 41 (0,0)):=by rw[<-ac];exact Ec _ _ _ ag.symm
 have aw:Ba w w4:=(((((eR w).alloc _).alloc _).trans ak).trans aa);have aG:=s.ext aa;have aH:∀j,(Value.slice a3 n3 c3).ownBlock=J j->w.heap.size+1<j/\j<b3:=fun j hj=>by
  obtain⟨q1,q2⟩:=s.lt j hj;simp only[wZ,Cc]at q1;exact⟨by omega,by omega⟩
 have ba:=Gb K1;rw[ag]at ba ⊢;rw[ac];have aL:=Aa (aa.e K0);have aM:=Aa (aa.e K1);have aq:=Aa au;have aQ:=Aa aw;have aW:=Aa aG;have aX:=Aa aH;clear K0 K1 ac aa au aw aG aH s ak ag;go_wp2;go_loopg [4] pn (sQ w w4 b3 (Z ga gn gc) (Z pa pn ae) (Z a3 n3 c3) ps)
 case atStart=>exact⟨0,_,[],by omega,rfl,by rw[Hn.o];rfl,QH _ _,aq.o,by rw[<-a8];exact Ka.nil _ _ _ _,rfl,fun j c p a=>by simp at a,fun c a=>by cases a⟩
 case round =>
  obtain⟨i,vs,cs,hi,rfl,rfl,y,ab,r,aA,aj,ai⟩:=hrel;rw[Hn.o]at hi;obtain⟨va,vn,vc,rfl⟩:=r.i;have aF:=y.size;have ah:=(y.block w.heap.size oM (by simp;omega)).trans aL.o;have bc:=Ca ah (i:=0) (u:=Z ga gn gc) rfl;have be:=Ca ah (i:=1) (u:=Z pa pn ae) rfl;have bg:=Ca ab (i:=1) (u:=Z va vn vc) rfl;have bf:=Ca ab (i:=0) (u:=Z a3 n3 c3) rfl;have ap:Ba w wr:=kH aQ.o y oM;by_cases a4:i<pn
  ·obtain⟨p,hq⟩:∃q,ps[i]?=J q:=⟨ps[i]'(by rw[Hn.o];omega),by simp[Hn.o,a4]⟩;obtain⟨b,o,v,rfl,hb,hv,a6,a⟩:=(Hp.o.f ap).at' hq;obtain⟨b0,o0,v0,e0,bq,_,_,_⟩:=Hp.o.at' hq;cases e0;have aO:=Aa (fun W (hW:Ba wr W)=>ZO W p.name v p.shape p.depth p.density p.gx p.gz p.way p.ax p.az p.skin (hv.f hW) (aV.o p (lM hq)));obtain⟨sa,sn,sc,rfl⟩:=hv.i;have aZ:=a 0 (.string p.name) rfl;have bh:=a 1 (Z sa sn sc) rfl;have bi:=a 2 (O Y p.depth) rfl;have bj:=a 3 (O Y p.density) rfl;have bk:=a 4 (O Y p.gx) rfl;have bl:=a 5 (O Y p.gz) rfl;have bm:=a 6 (O Y p.way) rfl;have bn:=a 7 (O Y p.ax) rfl;have bo:=a 8 (O Y p.az) rfl;have bp:=a 9 (O N p.skin) rfl;simp only[Nat.add_zero]at aZ;have Hq:=Aa hq;have aT:=Aa y;have aS:=Aa ab;have Q:=Aa r;have an:=Aa aj;have am:=Aa ai;have p1:(0:Int)<=(i:Int):=oM;have p2:(i:Int)<(pn:Int):=oM;clear hq hv a y ab r aj ai ah;go_wp2;refine Nh (fun i=>decide (10<i)) (Da [(⟨b3,1,X⟩,Z va vn vc),(⟨w.heap.size,1,X⟩,Z (J ⟨b,o,X⟩) pn ae),(⟨b,o+i*10,X⟩,.string p.name),(⟨b,o+i*10+1,X⟩,Z sa sn sc),(⟨b,o+i*10+2,X⟩,O Y p.depth),(⟨b,o+i*10+3,X⟩,O Y p.density),(⟨b,o+i*10+4,X⟩,O Y p.gx),(⟨b,o+i*10+5,X⟩,O Y p.gz),(⟨b,o+i*10+6,X⟩,O Y p.way),(⟨b,o+i*10+7,X⟩,O Y p.ax),(⟨b,o+i*10+8,X⟩,O Y p.az),(⟨b,o+i*10+9,X⟩,O N p.skin)]) kM ?_ (fun l=>?_)
   ·exact cA
   refine sN 0 ?_
   iterate 7 refine Yh ?_
   refine oN ?_;refine Wh (i:=7) (aO.o _ (eR wr).drew) ?_;rintro e w7 ⟨v7,rfl,aI,aK,a5⟩;obtain⟨a7,n7,c7,rfl⟩:=La aI;refine⟨_,rfl,(cE l aK),fun l=>?_⟩;have X7:Ba wr w7:=((eR wr).drew).trans aK;refine Jc (i:=8) fun K hK=>?_;go_simp;refine kO hK (fun _=>cE l ((eR _).alloc _)) (fun l=>?_);clear hK K;have l:=l rfl;have hA:Ba wr (w7.alloc (I #[.string p.name,Z a7 n7 c7,O Y p.depth,O Y p.density,O Y p.gx,O Y p.gz,O Y p.way,O Y p.ax,O Y p.az,O N p.skin] 47)):=X7.alloc _;refine Jc (i:=9) fun K hK=>?_;refine ir (T:=47) (t:=39) (z:=E #[.string ⟨#[]⟩,Z X 0 0,O Y 0,O Y 0,O Y 0,O Y 0,O Y 0,O Y 0,O Y 0,O N 0]) (k:=10) (bytes:=104) (v:=Z va vn vc) (base:=b3+1) AH rfl dM dM Tryz.underlying39 rfl _ _ rfl rfl (cs:=cs) (Q.o.ext hA) (ad:=⟨w7.heap.size,0,X⟩) (m:=1) (c:=1) rfl [(#[.string p.name,Z a7 n7 c7,O Y p.depth,O Y p.density,O Y p.gx,O Y p.gz,O Y p.way,O Y p.ax,O Y p.az,O N p.skin]:Array V).toList] rfl sM (by exact Nn w7 #[.string p.name,Z a7 n7 c7,O Y p.depth,O Y p.density,O Y p.gx,O Y p.gz,O Y p.way,O Y p.ax,O Y p.az,O N p.skin] 47) (by simp[Value.oneCell']) oM (by have:=hA.size;omega) ?_;intro v' w9 d n bb;obtain⟨a9,n9,c9,rfl⟩:=d.i;have S:=Aa (fun j (h:(Value.slice va vn vc).ownBlock=J j)=>Q.o.lt j h);refine kO hK (fun _=>Da.grown l n (fun q hq e=>?_)) (fun l=>?_)
   ·have h9:=(S.o _ e.symm).1;simp at hq;rcases hq with rfl|rfl|rfl|rfl|rfl|rfl|rfl|rfl|rfl|rfl|rfl|rfl<;>(dsimp only at h9;omega)
   clear hK K;have l:=l rfl;refine Sf (i:=10) ?_;have af:=li n (hA.e aS.o) (fun e=>by have:=(S.o _ e.symm).1;omega);have n1:=Ca af (i:=1) (u:=Z va vn vc) rfl;have nf:=Ua af;have aB:Ia 43 wr w9:=fun x c f hx=>li n (hA.e hx) (fun e=>by
    have h8:=(Q.o.ext hA).ne_blkD (hA.e hx) dM;exact h8 e.symm)
   have al:=Aa af;have aU:=Aa aB;clear af aB;refine Jc (i:=11) fun K hK=>?_;go_simp;refine kO hK (fun h=>nomatch h) (fun l=>?_);clear hK K;refine Kb kM ?_ _;go_wp2;go_roundg (pn-(i+1))
   case measure=>have:=Hn.o;omega
   case rel =>
    have aC:Ia 43 wr (w9.setCell ⟨b3,1,X⟩ (Z a9 n9 c9)):=aU.o.set (p:=⟨b3,1,X⟩) al.o dM _;refine⟨i+1,Z a9 n9 c9,cs++[#[.string p.name,Z a7 n7 c7,O Y p.depth,O Y p.density,O Y p.gx,O Y p.gz,O Y p.way,O Y p.ax,O Y p.az,O N p.skin].toList],by rw[Hn.o];omega,by go_num,by rw[Hn.o],Rm (NJ aT.o ((Below.mono hA aF).trans (Mh (base:=w4.heap.size) n (nT aF hA.size) (fun k hk=>by have:=(S.o k hk).1;omega)))) 1 _,Rh al.o 1 _,d.setOther (fun e=>by have:=(d.lt _ e).1;dsimp only at this;omega) _,by simp[aA],?_,?_⟩;rotate_left
    ·intro c a;rcases List.mem_append.1 a with a|a
     ·exact am.o c a
     ·rw[List.mem_singleton.1 a];intro j hj;have h1:=a5 j hj;simp only[Cc]at h1;omega
    intro j c x a hx;by_cases hj:j<cs.length
    ·rw[List.getElem?_append_left hj]at a;exact(an.o j c x a hx).keep aC
    ·rw[List.getElem?_append_right oM]at a;have hl:=(lS.1 a).1;simp at hl;have a1:j-cs.length=0:=oM;rw[a1]at a;have a2:j=i:=oM;subst a2;rw[Hq.o]at hx;cases hx;simp at a;subst a;refine⟨Z a7 n7 c7,rfl,?_,a6⟩;have h1:Ja (w7.alloc (I #[.string p.name,Z a7 n7 c7,O Y p.depth,O Y p.density,O Y p.gx,O Y p.gz,O Y p.way,O Y p.ax,O Y p.az,O N p.skin] 47)) (Z a7 n7 c7) p.shape:=aI.f ((eR _).alloc _);have h2:Ia 43 (w7.alloc (I #[.string p.name,Z a7 n7 c7,O Y p.depth,O Y p.density,O Y p.gx,O Y p.gz,O Y p.way,O Y p.ax,O Y p.az,O N p.skin] 47)) w9:=fun x c f hx=>li n hx (fun e=>by
      have h8:=(Q.o.ext hA).ne_blkD hx dM;exact h8 e.symm)
     exact(h1.z h2).z ((Ia.refl _ w9).set (p:=⟨b3,1,X⟩) al.o dM _)
  ·obtain rfl:pn=i:=oM;have P:=(y.block (w.heap.size+1) oM (by simp;omega)).trans aM.o;have r0:=Ca P (i:=0) (u:=Z X 0 0) rfl;have r1:=Ca P (i:=1) (u:=Z X 0 0) rfl;have rf:=Ua P;have aJ:Ka 43 2 wr (w.heap.size+1+1) (Z a3 n3 c3) (g.map pc):=(aW.o.keep (MJ y aq.o dM)).mono (by simp only[wZ,Cc];omega);have zr:=Gb P;have av:Ia 43 wr ((wr.setCell ⟨w.heap.size+1,0,X⟩ (Z a3 n3 c3)).setCell ⟨w.heap.size+1,1,X⟩ (Z va vn vc)):=((Ia.refl _ wr).set (p:=⟨w.heap.size+1,0,X⟩) P dM _).set (p:=⟨w.heap.size+1,1,X⟩) (Rh P 0 _) dM _;have ay:Ba w ((wr.setCell ⟨w.heap.size+1,0,X⟩ (Z a3 n3 c3)).setCell ⟨w.heap.size+1,1,X⟩ (Z va vn vc)):=(ap.set dO _).set dO _;have d:=(((r.setOther (p:=⟨w.heap.size+1,0,X⟩) (fun e=>by have:=(r.lt _ e).1;dsimp only at this;omega) (Z a3 n3 c3)).setOther (p:=⟨w.heap.size+1,1,X⟩) (fun e=>by have:=(r.lt _ e).1;dsimp only at this;omega) (Z va vn vc))).mono (b':=w.heap.size) oM;have br:=Rh (Rh P 0 (Z a3 n3 c3)) 1 (Z va vn vc);have ao:=Aa d;have ar:=Aa av;have aR:=Aa ay;have aY:=Aa aJ;have an:=Aa aj;have am:=Aa ai;clear d av ay aJ aj ai r y ah ab ap;go_wp2;refine bR (v:=E #[Z a3 n3 c3,Z va vn vc]) (by simp[results,Tryz.results11,go_sem,r0,r1,rf]) rfl ?_;rw[<-HR.o];exact⟨_,_,b3,rfl,(aY.o.keep ar.o).mono oM,fun j hj=>(aX.o j hj).2,⟨cs,ao.o,by rw[aA,Hn.o],fun j c p a hx=>(an.o j c p a hx).keep ar.o,am.o⟩,aR.o⟩
end
section
open Go.RowKit Go.Shelf Go.Sort Go.Lib
attribute [local go_sem] Oper.semAt_some
def Ce.forms{w:M}{v:V}{p:Pl}(h:Ce w v p):∃a1 n1 c1 a2 n2 c2 a3 n3 c3,v=E #[.string p.name,Z a1 n1 c1,O Y p.depth,O Y p.density,O Y p.gx,O Y p.gz,O Y p.way,O Y p.ax,O Y p.az,O N p.skin,Z a2 n2 c2,Z a3 n3 c3]:=by obtain⟨s,l,u,rfl,a,b,c⟩:=h;obtain⟨a1,n1,c1,rfl⟩:=La a;obtain⟨a2,n2,c2,rfl⟩:=La b;obtain⟨a3,n3,c3,rfl⟩:=La c;exact⟨_,_,_,_,_,_,_,_,_,rfl⟩
def jN(w:M)(a b:V)(p q:Pl)(c:Ja w a p.shape)(d:Ja w b q.shape)(v:0<=p.skin)(x:0<=q.skin)(f:Gw w)(o:Fa p=true/\Fa q=true):Calls Tryz.prog 39 #[E (Dd p a),E (Dd q b)] w fun e r=>e=.returned (.tuple #[O N (jf p q),O Y 0])/\Ba w r:=by have s:=Aa (fun(W:M)(m:Ba w W)=>KM W a b p q (c.f m) (d.f m) v x (f.ext m) o.1 o.2);have t:=Aa (fun(W:M)(a b:V)(c:Ce W a p)(d:Ce W b q)=>Mw W a b p q c d o.1 o.2);obtain⟨k,u⟩:=gX (jf p q);rw[u]at t ⊢;obtain⟨R,l⟩:=gX ((fun e r=>e=Ending.returned (.tuple #[O N k,O Y 0])/\Ba w r));rw[l];have z:=Aa l;obtain⟨T,ad,ab,rfl⟩:=La c;obtain⟨aa,ae,ac,rfl⟩:=La d;clear c d v x f o u l;unfold Dd at s ⊢;go_in;go_wp2_with(first|(go_at_call 103;refine cM (s.o _ eA) ?_;rintro e y ⟨r1,r2,rfl,g,i,j⟩;obtain⟨a1,n1,c1,a2,n2,c2,a3,n3,c3,rfl⟩:=g.forms;obtain⟨b1,m1,d1,b2,m2,d2,b3,m3,d3,rfl⟩:=i.forms;obtain⟨K,Q⟩:=j.cells;(have z5:=j.size);(simp only[wZ]at z5);(have af:w.heap.size<y.heap.size:=oM);(have ag:w.heap.size+1<y.heap.size:=oM))|(go_at_call 55;refine cM (t.o _ _ _ (g.ext eA) (i.ext ?_)) ?_;exact eA;rintro e w6 ⟨rfl,n⟩;obtain⟨P,S⟩:=n.cells));rw[<-z.o];exact⟨rfl,eA⟩
end
section
open Go Go.ChangeShapes Go.WideShapes Go.ChangeAt Go.RowKit
def Yz:Tryz.prog.underlying 53=some (.struct (Ul Tryz.prog 53)):=kM
def Zz:Tryz.prog.underlying 2=some (.int .i64):=kM
def jP{H:Type}{enc:TypeId×Value->H}{w:World}{spare:Nat->Bool}{held:Bool}{r:Reach}{t:Nat}{v:Value}{d:DataW H}{p:List MemPlace}(hv:Value.okWide Tryz.prog w r t 53 v)(h:DataW.Trod enc Tryz.prog w 0 spare held 53 v d p):∃n m:Int,v = .agg #[.int .i64 n,.int .i64 m]/\(-9223372036854775808<=n/\n<=9223372036854775807)/\(-9223372036854775808<=m/\m<=9223372036854775807):=by
 obtain⟨g,rfl,f⟩:=okWide_struct Yz hv;have Q:Tryz.prog.cellsOf 53=2:=kM;rw[Q]at f;obtain⟨u,x,rfl⟩:∃a b,g=#[a,b]:=by
  match g,f with
  | ⟨[a,b]⟩,_=>exact⟨a,b,rfl⟩
 obtain⟨fuel,R⟩:=h;obtain⟨xs,m,_,_,W,o,l⟩:=DataW.trod_struct Yz R;obtain⟨y0,K⟩:=Wj o l (i:=0) (ti:=2) (oi:=0) (ki:=1) kM;obtain⟨q,y,S⟩:=DataW.trod_int Zz K;have c:=xq S.2;rw[show IntKind.i64.min = -9223372036854775808 by decide,show IntKind.i64.max=9223372036854775807 by decide]at c;obtain⟨y1,P⟩:=Wj o l (i:=1) (ti:=2) (oi:=1) (ki:=1) kM;obtain⟨s,z,T⟩:=DataW.trod_int Zz P;have e:=xq T.2;rw[show IntKind.i64.min = -9223372036854775808 by decide,show IntKind.i64.max=9223372036854775807 by decide]at e;have j:[u]=[.int .i64 q]:=y;have k:[x]=[.int .i64 s]:=z;simp only[List.cons.injEq,and_true]at j k;subst j k;exact⟨q,s,rfl,c,e⟩
