import Derived.Test.YthgbjoahfnjadaaGreatDoorCopA11
import Derived.Test.YthgbjoahfnjadaaGreatDoorRows
import Derived.Test.YthgbjoahfnjadaaGreatDoorCards
import Derived.Test.YthgbjoahfnjadaaGreatDoorTie
import Derived.LaidMore
import Derived.Lay
import Derived.Stop.Joined
import Derived.OpenShut
import Derived.SevenTiedAt
set_option maxRecDepth 1000000
set_option maxHeartbeats 16000000
set_option linter.all false
open Go.Value renaming slice->O,int->Z,bool->I,agg->Q,pointer->Oa
open Option renaming none->Y,some->C
open Go.IntKind renaming i64->X
open Go renaming World->N,Value->E
open Go.Obj renaming cells->D
namespace Go.Proofs.YthgbjoahfnjadaaGreatDoor.Cop
section
open Go Go.ChangeShapes Go.WideShapes Go.ChangeAt Go.RowKit
def xF:ownKnob Tryz.prog.godebug=none:=kM
def nn:Tryz.prog.globalNamed "copestone/stone.ways" = some 0:=kM
def jn:(Tryz.prog.globals[0]?).map (·.type)=some 325:=kM
def SF:Tryz.prog.underlying 325=some (.array 4 324):=kM
def jr:Tryz.prog.underlying 324=some (.func #[55] #[55] false):=kM
def Ar:laidOutB Tryz.prog=true:=kM
abbrev Bi:List (String×DataW Unit):=[("unicode/utf8.acceptRanges",Rows.laid_unicode_utf8_acceptRanges),("copestone/stone.ways",Rows.laid_copestone_stone_ways),("unicode/utf8.first",Rows.laid_unicode_utf8_first)]
abbrev Dp:List (String×DataW Unit):=[("unicode/utf8.acceptRanges",Rows.laid_unicode_utf8_acceptRanges),("unicode/utf8.first",Rows.laid_unicode_utf8_first)]
def jJ{W:World}(h:laidMetH Tryz.prog Bi W):Gw W:=by
 obtain⟨g,t,a,fuel,p,c,q,hv,o⟩:=h.funcs (mC _ (List.mem_cons_self ..));obtain rfl:=Option.some.inj (nn.symm.trans c);obtain rfl:=Option.some.inj (jn.symm.trans q);have d:DataW.trod (funcToken Tryz.prog) Tryz.prog W 0 (fun _=>true) true fuel 325 a.toList=some (.agg [.held [99,111,112,101,115,116,111,110,101,47,115,116,111,110,101,46,119,97,121,115,36,49],.held [99,111,112,101,115,116,111,110,101,47,115,116,111,110,101,46,119,97,121,115,36,50],.held [99,111,112,101,115,116,111,110,101,47,115,116,111,110,101,46,119,97,121,115,36,51],.held [99,111,112,101,115,116,111,110,101,47,115,116,111,110,101,46,119,97,121,115,36,52]],p):=o;obtain⟨K,m,_,k,j,f,b⟩:=DataW.trod_array SF d;have l:Tryz.prog.cellsOf 324=1:=kM;have n:Tryz.prog.cellsOf 325=4:=kM;rw[n]at j;rw[l]at b;obtain⟨a⟩:=a;have e:a.length=4:=j
 match a,e,K,f with
 | [v0,v1,v2,v3],_,[⟨y0,P⟩,⟨y1,R⟩,⟨y2,T⟩,⟨y3,q3⟩],_ =>
  simp only[Prod.mk.injEq,List.map_cons,List.map_nil,DataW.agg.injEq,List.cons.injEq,and_true]at k;obtain⟨⟨rfl,rfl,rfl,rfl⟩,_⟩:=k;have w:=b 0 oM;have x:=b 1 oM;have y:=b 2 oM;have z:=b 3 oM;have r:=World.var?_cell c hv 0;have s:=World.var?_cell c hv 1;have u:=World.var?_cell c hv 2;have v:=World.var?_cell c hv 3;obtain rfl:=func_of_trod (f0:=332) jr kM w;obtain rfl:=func_of_trod (f0:=333) jr kM x;obtain rfl:=func_of_trod (f0:=334) jr kM y;obtain rfl:=func_of_trod (f0:=335) jr kM z;have i:W.cell? ⟨0,0,none⟩=some (.func (.func 332) #[] #[]):=by simpa using r
  exact⟨World.block_lt_of_cell? W _ (by rw[i]),i,by simpa using s,by simpa using u,by simpa using v⟩
noncomputable def pC(os:Os):World:=(World.doorLaid Tryz.prog 14 os).layVars Tryz.prog Dp
def lD(os:Os)(args:Array Value):laidMetH Tryz.prog Bi ((pC os).forCall (fun _ _=>0) ⟨#[],args,[]⟩).memory:=by
 refine laidMetH_of_parts3 (fuel:=8) ?_ kM kM
 exact laidMet_layVars (w0:=World.doorLaid Tryz.prog 14 os) ["unicode/utf8.acceptRanges", "unicode/utf8.first"] [] (by rfl) kM kM LaidIn.none
def Ss{k:IntKind}{n:Int}(h:(Lit.int k n).wf=true):k.min<=n/\n<=k.max:=by unfold Lit.wf at h;simp only[Bool.and_eq_true,decide_eq_true_eq]at h;exact h
end
section
open Go.RowKit Go.Shelf Go.Sort
def PK(w:N)(s:ByteArray)(v:E)(z:LP)(d k l o u px t sk:Int)(h:Pd w v z)(R:z.length<=1000):Calls Tryz.prog 41 #[Q #[.string s,v,Z X d,Z X k,Z X l,Z X o,Z X u,Z X px,Z X t,Z .u8 sk]] w fun e w'=>∃v',e=.returned (Q #[.string s,v',Z X d,Z X k,Z X l,Z X o,Z X u,Z X px,Z X t,Z .u8 sk])/\Aa w' v' z/\oa w w'/\∀j,v'.ownBlock=C j->w.heap.size<=j:=by
 have HP:=ia (fun W (hW:oa w W)=>AG W s v z d k l o (h.i hW) R);obtain⟨a,n,c,rfl⟩:=h.j;clear h;go_in;go_wp2;refine Ke [(⟨w.heap.size,0,Y⟩,.string s),(⟨w.heap.size,1,Y⟩,O a n c),(⟨w.heap.size,2,Y⟩,Z X d),(⟨w.heap.size,3,Y⟩,Z X k),(⟨w.heap.size,4,Y⟩,Z X l),(⟨w.heap.size,5,Y⟩,Z X o),(⟨w.heap.size,6,Y⟩,Z X u),(⟨w.heap.size,7,Y⟩,Z X px),(⟨w.heap.size,8,Y⟩,Z X t),(⟨w.heap.size,9,Y⟩,Z .u8 sk)] cA fun g=>?_;refine sN 0 ?_
 iterate 2 refine Fc ?_
 refine oN ?_;refine sN 3 ?_
 iterate 11 refine Fc ?_
 refine oN ?_;refine Ec (i:=2) (HP.o _ eA) ?_;rintro e w3 ⟨v3,rfl,y,r,T⟩;obtain⟨a3,n3,c3,rfl⟩:=Ia y;refine⟨_,rfl,(cE g r),fun g=>?_⟩;refine Ac (i:=14) ?_;have f:=r.e (Tt w (D #[.string s,O a n c,Z X d,Z X k,Z X l,Z X o,Z X u,Z X px,Z X t,Z .u8 sk] 99) (D #[.string ⟨#[]⟩,O Y 0 0,Z X 0,Z X 0,Z X 0,Z X 0,Z X 0,Z X 0,Z X 0,Z .u8 0] 72));have k0:=ja f 0 (.string ⟨#[]⟩);have k1:=ja f 1 (O Y 0 0);have k2:=ja f 2 (Z X 0);have k3:=ja f 3 (Z X 0);have k4:=ja f 4 (Z X 0);have k5:=ja f 5 (Z X 0);have k6:=ja f 6 (Z X 0);have k7:=ja f 7 (Z X 0);have k8:=ja f 8 (Z X 0);have k9:=ja f 9 (Z .u8 0);have kf:=Vb f;have b:=ia (show ∀q∈[((⟨w.heap.size,0,Y⟩:Addr),Value.string s),(⟨w.heap.size,1,Y⟩,O a n c),(⟨w.heap.size,2,Y⟩,Z X d),(⟨w.heap.size,3,Y⟩,Z X k),(⟨w.heap.size,4,Y⟩,Z X l),(⟨w.heap.size,5,Y⟩,Z X o),(⟨w.heap.size,6,Y⟩,Z X u),(⟨w.heap.size,7,Y⟩,Z X px),(⟨w.heap.size,8,Y⟩,Z X t),(⟨w.heap.size,9,Y⟩,Z .u8 sk)],w.heap.size+1≠q.1.block from fun q hq h=>by
  simp at hq;rcases hq with rfl|rfl|rfl|rfl|rfl|rfl|rfl|rfl|rfl|rfl<;>(dsimp only at h;omega))
 have P:oa w w3:=((((eR w).alloc _).alloc _).drew).trans r;have x:=ia f;clear f;refine Je (i:=15) fun K hK=>?_;go_simp;refine kO hK (Ca.set (p:=⟨w.heap.size+1,9,Y⟩) (Ca.set (p:=⟨w.heap.size+1,8,Y⟩) (Ca.set (p:=⟨w.heap.size+1,7,Y⟩) (Ca.set (p:=⟨w.heap.size+1,6,Y⟩) (Ca.set (p:=⟨w.heap.size+1,5,Y⟩) (Ca.set (p:=⟨w.heap.size+1,4,Y⟩) (Ca.set (p:=⟨w.heap.size+1,3,Y⟩) (Ca.set (p:=⟨w.heap.size+1,2,Y⟩) (Ca.set (p:=⟨w.heap.size+1,1,Y⟩) (Ca.set (p:=⟨w.heap.size+1,0,Y⟩) g b.o _) b.o _) b.o _) b.o _) b.o _) b.o _) b.o _) b.o _) b.o _) b.o _) (fun g=>?_);clear hK K;refine Wd ?_;go_wp2;have ab:=jc x.o;have aa:Aa w3 (O a3 n3 c3) z:=y;have n0:Wc 55 w3 (w.heap.size+1):=by intro cs fr e;rw[x.o]at e;cases e
 refine bR (v:=Q #[.string s,O a3 n3 c3,Z X d,Z X k,Z X l,Z X o,Z X u,Z X px,Z X t,Z .u8 sk]) (by simp[results,Tryz.results41,go_sem,k0,k1,k2,k3,k4,k5,k6,k7,k8,k9,kf]) rfl ⟨_,rfl,?_,?_,fun j hj=>by have:=T j hj;simp only[wZ,Tb]at this;omega⟩
 ·refine aa.G ?_
  repeat(first|with_reducible exact Fa.refl _ _|(with_reducible refine Fa.D ?_ ?_ _)|with_reducible exact n0|with_reducible refine Wc.set ?_ _ _)
 ·repeat(first|with_reducible exact P|(with_reducible refine oa.set ?_ dO _))
def Tk.keep{w w':N}{c:List E}{p:Pl}(h:Tk w c p)(k:Fa 55 w w'):Tk w' c p:=by obtain⟨v,a,b,d⟩:=h;exact⟨v,a,b.G k,d⟩
def Ga.ne_blkD{T T':TypeId}{k:Nat}{w:N}{base:Nat}{v:E}{cs:List (List E)}(h:Ga T k w base v cs){b:Nat}{c:Array E}{d:Nat×Nat}(a:w.heap[b]?=C (D c T' d))(i:T'≠T):v.ownBlock≠C b:=by
 intro e;rcases h.2.2 with ⟨f,_⟩|⟨g,cap,cur,hv,_,j,_⟩
 ·rw[f]at e;cases e
 ·rw[hv]at e;cases e;rw[j]at a;cases a;exact i rfl
def GE:(Tryz.prog.info? 72).map (fun i=>(i.zero,i.size,i.bytes))=C (C (Q #[.string ⟨#[]⟩,O Y 0 0,Z X 0,Z X 0,Z X 0,Z X 0,Z X 0,Z X 0,Z X 0,Z .u8 0]),10,104):=kM
def Mm(L:Nat)(c:List E):Prop:=∀j,(c.getD 1 (I false)).ownBlock=C j->L<=j
def ri(w:N)(base L:Nat)(v:E)(ps:List Pl):Prop:=∃cs,Ga 72 10 w base v cs/\cs.length=ps.length/\(∀(i:Nat) c p,cs[i]?=C c->ps[i]?=C p->Tk w c p)/\∀c∈cs,Mm L c
def ri.own{w:N}{base L:Nat}{v:E}{ps:List Pl}(h:ri w base L v ps):Ji w base v ps:=by obtain⟨a,b,c,d,_⟩:=h;exact⟨a,b,c,d⟩
def ML(w e:N)(a:Nat)(f k v3:E)(ps:List Pl)(g:Nat)(t4:E)(W:N):Prop:=
 ∃(i:Nat)(d:E)(b:List (List E)),i<=ps.length/\t4=Z X (i:Nat)/\g=ps.length-i/\e.grownBy W (C a)/\W.heap[a]?=C (D #[v3,d] 35 (0,0))/\
  Ga 72 10 W (a+1) d b/\b.length=i/\(∀(j:Nat) c p,b[j]?=C c->ps[j]?=C p->Tk W c p)/\∀c∈b,Mm a c
def oG(w:N)(vg vp:E)(g:LP)(ps:List Pl)(hg:Pd w vg g)(hp:pf w vp ps)(a1:g.length<=1000)(aE:ps.length<=1000)(aF:∀p∈ps,p.shape.length<=1000):Calls Tryz.prog 8 #[Q #[vg,vp]] w fun e w'=>∃vg' vp' L,e=.returned (Q #[vg',vp'])/\Ga 55 2 w' w.heap.size vg' (g.map pc)/\(∀j,vg'.ownBlock=C j->j<L)/\ri w' w.heap.size L vp' ps/\oa w w':=by
 have aQ:=ia (fun W (hW:oa w W)=>XA W vg g (hg.i hW) a1);obtain⟨ga,gn,gc,rfl⟩:=hg.j;obtain⟨pa,pn,af,rfl⟩:=hp.j;have Hn:=ia hp.len.symm;have Hp:=ia hp;have aW:=ia aF;have bs:pn<=1000:=by rw[hp.len];exact aE
 obtain⟨R,hR⟩:∃R:Ending->N->Prop,(fun e w'=>∃vg' vp' L,e=.returned (Q #[vg',vp'])/\Ga 55 2 w' w.heap.size vg' (g.map pc)/\(∀j,vg'.ownBlock=C j->j<L)/\ri w' w.heap.size L vp' ps/\oa w w')=R:=⟨_,rfl⟩;rw[hR];have HR:=ia hR;clear hg hp hR aF aE;go_in;go_wp2_with(go_at_call 40;refine cM (aQ.o _ eA) ?_;rintro e w3 ⟨v3,rfl,s,al⟩;obtain⟨a3,n3,c3,rfl⟩:=s.j);have K0:=al.e (UF w (D #[O ga gn gc,O pa pn af] 25) (D #[O Y 0 0,O Y 0 0] 35));have K1:=al.e (Tt w (D #[O ga gn gc,O pa pn af] 25) (D #[O Y 0 0,O Y 0 0] 35));obtain⟨b3,ah⟩:=gX w3.heap.size;obtain⟨w4,ae⟩:=gX (w3.alloc (D #[O a3 n3 c3,O Y 0 0] 35));have ab:oa w3 w4:=by rw[<-ae];exact(eR w3).alloc _
 have ba:w4.heap.size=b3+1:=by rw[<-ae];simp[ah]
 have av:w4.heap[b3]?=C (D #[O a3 n3 c3,O Y 0 0] 35 (0,0)):=by rw[<-ae];exact Kc _ _ _ ah.symm
 have ay:oa w w4:=(((((eR w).alloc _).alloc _).trans al).trans ab);have aH:=s.ext ab;have aI:∀j,(Value.slice a3 n3 c3).ownBlock=C j->w.heap.size+1<j/\j<b3:=fun j hj=>by
  obtain⟨q1,q2⟩:=s.lt j hj;simp only[wZ,Tb]at q1;exact⟨by omega,by omega⟩
 have bb:=jc K1;rw[ah]at bb ⊢;rw[ae];have aM:=ia (ab.e K0);have aO:=ia (ab.e K1);have ar:=ia av;have aR:=ia ay;have aX:=ia aH;have aY:=ia aI;clear K0 K1 ae ab av ay aH aI s al ah;go_wp2;go_loopg [4] pn (ML w w4 b3 (O ga gn gc) (O pa pn af) (O a3 n3 c3) ps)
 case atStart=>exact⟨0,_,[],by omega,rfl,by rw[Hn.o];rfl,KD _ _,ar.o,by rw[<-ba];exact Ga.nil _ _ _ _,rfl,fun j c p a=>by simp at a,fun c a=>by cases a⟩
 case round =>
  obtain⟨i,vs,cs,hi,rfl,rfl,u,ac,r,aB,ak,aj⟩:=hrel;rw[Hn.o]at hi;obtain⟨va,vn,vc,rfl⟩:=r.j;have aG:=u.size;have ai:=(u.block w.heap.size oM (by simp;omega)).trans aM.o;have bd:=ja ai 0 (O ga gn gc);have be:=ja ai 1 (O pa pn af);have bg:=ja ac 1 (O va vn vc);have bf:=ja ac 0 (O a3 n3 c3);have aq:oa w wr:=YC aR.o u oM;by_cases a5:i<pn
  ·obtain⟨p,hq⟩:∃q,ps[i]?=C q:=⟨ps[i]'(by rw[Hn.o];omega),by simp[Hn.o,a5]⟩;obtain⟨b,o,v,rfl,hb,hv,a8,a⟩:=(Hp.o.i aq).at' hq;obtain⟨b0,o0,v0,e0,bq,_,_,_⟩:=Hp.o.at' hq;cases e0;have aP:=ia (fun W (hW:oa wr W)=>PK W p.name v p.shape p.depth p.density p.gx p.gz p.way p.ax p.az p.skin (hv.i hW) (aW.o p (lM hq)));obtain⟨sa,sn,sc,rfl⟩:=hv.j;have a0:=a 0 (.string p.name) rfl;have bh:=a 1 (O sa sn sc) rfl;have bi:=a 2 (Z X p.depth) rfl;have bj:=a 3 (Z X p.density) rfl;have bk:=a 4 (Z X p.gx) rfl;have bl:=a 5 (Z X p.gz) rfl;have bm:=a 6 (Z X p.way) rfl;have bn:=a 7 (Z X p.ax) rfl;have bo:=a 8 (Z X p.az) rfl;have bp:=a 9 (Z .u8 p.skin) rfl;simp only[Nat.add_zero]at a0;have Hq:=ia hq;have aU:=ia u;have aT:=ia ac;have P:=ia r;have ao:=ia ak;have an:=ia aj;have p1:(0:Int)<=(i:Int):=oM;have p2:(i:Int)<(pn:Int):=oM;clear hq hv a u ac r ak aj ai;go_wp2;refine tp (fun i=>decide (10<i)) (Ca [(⟨b3,1,Y⟩,O va vn vc),(⟨w.heap.size,1,Y⟩,O (C ⟨b,o,Y⟩) pn af),(⟨b,o+i*10,Y⟩,.string p.name),(⟨b,o+i*10+1,Y⟩,O sa sn sc),(⟨b,o+i*10+2,Y⟩,Z X p.depth),(⟨b,o+i*10+3,Y⟩,Z X p.density),(⟨b,o+i*10+4,Y⟩,Z X p.gx),(⟨b,o+i*10+5,Y⟩,Z X p.gz),(⟨b,o+i*10+6,Y⟩,Z X p.way),(⟨b,o+i*10+7,Y⟩,Z X p.ax),(⟨b,o+i*10+8,Y⟩,Z X p.az),(⟨b,o+i*10+9,Y⟩,Z .u8 p.skin)]) kM ?_ (fun l=>?_)
   ·exact cA
   refine sN 0 ?_
   iterate 7 refine so ?_
   refine oN ?_;refine Th (i:=7) (aP.o _ (eR wr).drew) ?_;rintro e w7 ⟨v7,rfl,aJ,aL,a6⟩;obtain⟨a7,n7,c7,rfl⟩:=Ia aJ;refine⟨_,rfl,(cE l aL),fun l=>?_⟩;have X7:oa wr w7:=((eR wr).drew).trans aL;refine Ah (i:=8) fun K hK=>?_;go_simp;refine kO hK (fun _=>cE l ((eR _).alloc _)) (fun l=>?_);clear hK K;have l:=l rfl;have hA:oa wr (w7.alloc (D #[.string p.name,O a7 n7 c7,Z X p.depth,Z X p.density,Z X p.gx,Z X p.gz,Z X p.way,Z X p.ax,Z X p.az,Z .u8 p.skin] 72)):=X7.alloc _;refine Ah (i:=9) fun K hK=>?_;refine Yt (T:=72) (t:=33) (z:=Q #[.string ⟨#[]⟩,O Y 0 0,Z X 0,Z X 0,Z X 0,Z X 0,Z X 0,Z X 0,Z X 0,Z .u8 0]) (k:=10) (bytes:=104) (v:=O va vn vc) (base:=b3+1) GE rfl dM dM Tryz.underlying33 rfl _ _ rfl rfl (cs:=cs) (P.o.ext hA) (ad:=⟨w7.heap.size,0,Y⟩) (m:=1) (c:=1) rfl [(#[.string p.name,O a7 n7 c7,Z X p.depth,Z X p.density,Z X p.gx,Z X p.gz,Z X p.way,Z X p.ax,Z X p.az,Z .u8 p.skin]:Array E).toList] rfl sM (by exact yr w7 #[.string p.name,O a7 n7 c7,Z X p.depth,Z X p.density,Z X p.gx,Z X p.gz,Z X p.way,Z X p.ax,Z X p.az,Z .u8 p.skin] 72) (by simp[Value.oneCell']) oM (by have:=hA.size;omega) ?_;intro v' w9 d n bc;obtain⟨a9,n9,c9,rfl⟩:=d.j;have aa:=ia (fun j (h:(Value.slice va vn vc).ownBlock=C j)=>P.o.lt j h);refine kO hK (fun _=>Ca.grown l n (fun q hq e=>?_)) (fun l=>?_)
   ·have h9:=(aa.o _ e.symm).1;simp at hq;rcases hq with rfl|rfl|rfl|rfl|rfl|rfl|rfl|rfl|rfl|rfl|rfl|rfl<;>(dsimp only at h9;omega)
   clear hK K;have l:=l rfl;refine Ae (i:=10) ?_;have ag:=Bh n (hA.e aT.o) (fun e=>by have:=(aa.o _ e.symm).1;omega);have n1:=ja ag 1 (O va vn vc);have nf:=Vb ag;have aC:Fa 55 wr w9:=fun x c f hx=>Bh n (hA.e hx) (fun e=>by
    have h8:=(P.o.ext hA).ne_blkD (hA.e hx) dM;exact h8 e.symm)
   have am:=ia ag;have aV:=ia aC;clear ag aC;refine Ah (i:=11) fun K hK=>?_;go_simp;refine kO hK (fun h=>nomatch h) (fun l=>?_);clear hK K;refine Le kM ?_ _;go_wp2;go_roundg (pn-(i+1))
   case measure=>have:=Hn.o;omega
   case rel =>
    have aD:Fa 55 wr (w9.setCell ⟨b3,1,Y⟩ (O a9 n9 c9)):=aV.o.set (p:=⟨b3,1,Y⟩) am.o dM _;refine⟨i+1,O a9 n9 c9,cs++[#[.string p.name,O a7 n7 c7,Z X p.depth,Z X p.density,Z X p.gx,Z X p.gz,Z X p.way,Z X p.ax,Z X p.az,Z .u8 p.skin].toList],by rw[Hn.o];omega,by go_num,by rw[Hn.o],ol (DG aU.o ((Below.mono hA aG).trans (Ch (base:=w4.heap.size) n (nT aG hA.size) (fun k hk=>by have:=(aa.o k hk).1;omega)))) 1 _,rh am.o 1 _,d.setOther (fun e=>by have:=(d.lt _ e).1;dsimp only at this;omega) _,by simp[aB],?_,?_⟩;rotate_left
    ·intro c a;rcases List.mem_append.1 a with a|a
     ·exact an.o c a
     ·rw[List.mem_singleton.1 a];intro j hj;have h1:=a6 j hj;simp only[Tb]at h1;omega
    intro j c x a hx;by_cases hj:j<cs.length
    ·rw[List.getElem?_append_left hj]at a;exact(ao.o j c x a hx).keep aD
    ·rw[List.getElem?_append_right oM]at a;have hl:=(lS.1 a).1;simp at hl;have a2:j-cs.length=0:=oM;rw[a2]at a;have a4:j=i:=oM;subst a4;rw[Hq.o]at hx;cases hx;simp at a;subst a;refine⟨O a7 n7 c7,rfl,?_,a8⟩;have h1:Aa (w7.alloc (D #[.string p.name,O a7 n7 c7,Z X p.depth,Z X p.density,Z X p.gx,Z X p.gz,Z X p.way,Z X p.ax,Z X p.az,Z .u8 p.skin] 72)) (O a7 n7 c7) p.shape:=aJ.i ((eR _).alloc _);have h2:Fa 55 (w7.alloc (D #[.string p.name,O a7 n7 c7,Z X p.depth,Z X p.density,Z X p.gx,Z X p.gz,Z X p.way,Z X p.ax,Z X p.az,Z .u8 p.skin] 72)) w9:=fun x c f hx=>Bh n hx (fun e=>by
      have h8:=(P.o.ext hA).ne_blkD hx dM;exact h8 e.symm)
     exact(h1.G h2).G ((Fa.refl _ w9).set (p:=⟨b3,1,Y⟩) am.o dM _)
  ·obtain rfl:pn=i:=oM;have y:=(u.block (w.heap.size+1) oM (by simp;omega)).trans aO.o;have r0:=ja y 0 (O Y 0 0);have r1:=ja y 1 (O Y 0 0);have rf:=Vb y;have aK:Ga 55 2 wr (w.heap.size+1+1) (O a3 n3 c3) (g.map pc):=(aX.o.keep (CG u ar.o dM)).mono (by simp only[wZ,Tb];omega);have zr:=jc y;have aw:Fa 55 wr ((wr.setCell ⟨w.heap.size+1,0,Y⟩ (O a3 n3 c3)).setCell ⟨w.heap.size+1,1,Y⟩ (O va vn vc)):=((Fa.refl _ wr).set (p:=⟨w.heap.size+1,0,Y⟩) y dM _).set (p:=⟨w.heap.size+1,1,Y⟩) (rh y 0 _) dM _;have aA:oa w ((wr.setCell ⟨w.heap.size+1,0,Y⟩ (O a3 n3 c3)).setCell ⟨w.heap.size+1,1,Y⟩ (O va vn vc)):=(aq.set dO _).set dO _;have d:=(((r.setOther (p:=⟨w.heap.size+1,0,Y⟩) (fun e=>by have:=(r.lt _ e).1;dsimp only at this;omega) (O a3 n3 c3)).setOther (p:=⟨w.heap.size+1,1,Y⟩) (fun e=>by have:=(r.lt _ e).1;dsimp only at this;omega) (O va vn vc))).mono (b':=w.heap.size) oM;have br:=rh (rh y 0 (O a3 n3 c3)) 1 (O va vn vc);have ap:=ia d;have au:=ia aw;have aS:=ia aA;have aZ:=ia aK;have ao:=ia ak;have an:=ia aj;clear d aw aA aK ak aj r u ai ac aq;go_wp2;refine bR (v:=Q #[O a3 n3 c3,O va vn vc]) (by simp[results,Tryz.results8,go_sem,r0,r1,rf]) rfl ?_;rw[<-HR.o];exact⟨_,_,b3,rfl,(aZ.o.keep au.o).mono oM,fun j hj=>(aY.o j hj).2,⟨cs,ap.o,by rw[aB,Hn.o],fun j c p a hx=>(ao.o j c p a hx).keep au.o,an.o⟩,aS.o⟩
def pG(w:N)(d f:E)(g:LP)(ps:List Pl)(n:Pd w d g)(o:pf w f ps)(a:g.length<=1000)(b:ps.length<=1000)(c:∀p∈ps,p.shape.length<=1000):Calls Tryz.prog 8 #[Q #[d,f]] w fun e i=>∃vg' vp',e=.returned (Q #[vg',vp'])/\Aa i vg' g/\Ji i w.heap.size vp' ps/\oa w i:=
 (oG w d f g ps n o a b c).mono fun _ _ ⟨vg',vp',_,l,j,_,k,q⟩=>⟨vg',vp',l,j.pts,k.own,q⟩
end
section
open Go.RowKit Go.Shelf Go.Sort Go.Lib
attribute [local go_sem] Oper.semAt_some
def Qd.forms{w:N}{v:E}{p:Pl}(h:Qd w v p):∃a1 n1 c1 a2 n2 c2 a3 n3 c3,v=Q #[.string p.name,O a1 n1 c1,Z X p.depth,Z X p.density,Z X p.gx,Z X p.gz,Z X p.way,Z X p.ax,Z X p.az,Z .u8 p.skin,O a2 n2 c2,O a3 n3 c3]:=by obtain⟨s,l,u,rfl,a,b,c⟩:=h;obtain⟨a1,n1,c1,rfl⟩:=Ia a;obtain⟨a2,n2,c2,rfl⟩:=Ia b;obtain⟨a3,n3,c3,rfl⟩:=Ia c;exact⟨_,_,_,_,_,_,_,_,_,rfl⟩
def gK(w:N)(a b:E)(p q:Pl)(c:Aa w a p.shape)(d:Aa w b q.shape)(x:0<=p.skin)(y:0<=q.skin)(f:Gw w)(o:Ea p=true/\Ea q=true):Calls Tryz.prog 38 #[Q (pe p a),Q (pe q b)] w fun e s=>e=.returned (.tuple #[Z .u8 (Ee p q),Z X 0])/\oa w s:=by have t:=ia (fun(W:N)(n:oa w W)=>UH W a b p q (c.i n) (d.i n) x y (f.ext n) o.1 o.2);have u:=ia (fun(W:N)(a b:E)(c:Qd W a p)(d:Qd W b q)=>Pu W a b p q c d o.1 o.2);obtain⟨k,v⟩:=gX (Ee p q);rw[v]at u ⊢;obtain⟨R,l⟩:=gX ((fun e s=>e=Ending.returned (.tuple #[Z .u8 k,Z X 0])/\oa w s));rw[l];have K:=ia l;obtain⟨ac,ag,ae,rfl⟩:=Ia c;obtain⟨ad,ah,af,rfl⟩:=Ia d;clear c d x y f o v l;unfold pe at t ⊢;go_in;go_wp2_with(first|(go_at_call 81;refine cM (t.o _ eA) ?_;rintro e z ⟨r1,r2,rfl,g,i,j⟩;obtain⟨a1,n1,c1,a2,n2,c2,a3,n3,c3,rfl⟩:=g.forms;obtain⟨b1,m1,d1,b2,m2,d2,b3,m3,d3,rfl⟩:=i.forms;obtain⟨P,aa⟩:=j.cells;(have z5:=j.size);(simp only[wZ]at z5);(have ai:w.heap.size<z.heap.size:=oM);(have aj:w.heap.size+1<z.heap.size:=oM))|(go_at_call 85;refine cM (u.o _ _ _ (g.ext eA) (i.ext ?_)) ?_;exact eA;rintro e w6 ⟨rfl,r⟩;obtain⟨T,ab⟩:=r.cells));rw[<-K.o];exact⟨rfl,eA⟩
end
section
open Go Go.ChangeShapes Go.WideShapes Go.ChangeAt Go.RowKit
def uw:Tryz.prog.underlying 55=C (.struct (Ek Tryz.prog 55)):=kM
def GA{H:Type}{enc:TypeId×E->H}{w:N}{spare:Nat->Bool}{held:Bool}{r:Reach}{t:Nat}{v:E}{d:DataW H}{p:List MemPlace}(hv:Value.okWide Tryz.prog w r t 55 v)(h:DataW.Trod enc Tryz.prog w 0 spare held 55 v d p):∃n m:Int,v=Q #[Z X n,Z X m]/\(-9223372036854775808<=n/\n<=9223372036854775807)/\(-9223372036854775808<=m/\m<=9223372036854775807):=by
 obtain⟨g,rfl,f⟩:=okWide_struct uw hv;have R:Tryz.prog.cellsOf 55=2:=kM;rw[R]at f;obtain⟨u,x,rfl⟩:∃a b,g=#[a,b]:=by
  match g,f with
  | ⟨[a,b]⟩,_=>exact⟨a,b,rfl⟩
 obtain⟨fuel,T⟩:=h;obtain⟨xs,m,_,_,hl,o,l⟩:=DataW.trod_struct uw T;obtain⟨y0,K⟩:=Zi o l (i:=0) (ti:=3) (oi:=0) (ki:=1) kM;obtain⟨q,y,W⟩:=DataW.trod_int Tryz.underlying3 K;have c:=Ss W.2;rw[show IntKind.i64.min = -9223372036854775808 by decide,show IntKind.i64.max=9223372036854775807 by decide]at c;obtain⟨y1,P⟩:=Zi o l (i:=1) (ti:=3) (oi:=1) (ki:=1) kM;obtain⟨s,z,w1⟩:=DataW.trod_int Tryz.underlying3 P;have e:=Ss w1.2;rw[show IntKind.i64.min = -9223372036854775808 by decide,show IntKind.i64.max=9223372036854775807 by decide]at e;have j:[u]=[Z X q]:=y;have k:[x]=[Z X s]:=z;simp only[List.cons.injEq,and_true]at j k;subst j k;exact⟨q,s,rfl,c,e⟩
set_option maxRecDepth 100000
def JL:(Rows.placeCoversRow.inPlace==Tryz.prog.inPlace 4)=true:=kM
def IL:(Rows.placeCoversRow.unfollowed==Tryz.prog.unfollowed 4)=true:=kM
def GL:(Rows.placeCoversRow.recurses==Tryz.prog.recurses 4)=true:=kM
def FL:(Rows.placeCoversRow.named==Tryz.prog.varsNamed 4)=true:=kM
def EL:mapsRowed Tryz.prog=true:=kM
def DL:Tryz.prog.stopsHeard=true:=kM
def CL:Tryz.prog.mayEnter=true:=kM
def Np:joinedFacts Tryz.prog 4 Tryz.f4 Rows.placeCoversSpec Rows.placeCoversRow=true:=by unfold joinedFacts;rw[JL,IL,GL,FL,EL,DL,CL,Ar];kernel_rfl
end
section
open Go.RowKit Go.Shelf
def CJ(w:N)(d f:E)(b:Int)(p:b<0)(g:∃a n c,d=O a n c)(i:∃a n c,f=O a n c):Calls Tryz.prog 101 #[Q #[d,f],Z X b] w fun e j=>e=.returned d/\oa w j:=by obtain⟨k,o,l,rfl⟩:=g;obtain⟨q,r,sc,rfl⟩:=i;go_in;go_wp2;go_ret;exact⟨rfl,eA⟩
def xG(w:N)(l q:E)(ps:List Pl)(i:Nat)(p:Pl)(y:∃a n c,l=O a n c)(d:Ub w q ps)(j:ps[i]?=C p):Calls Tryz.prog 101 #[Q #[l,q],Z X i] w fun e r=>∃v,e=.returned v/\Aa r v (Ra p)/\oa w r:=by obtain⟨W,gn,gc,rfl⟩:=y;obtain⟨sa,n,sc,rfl⟩:=Ia d;have z:=d.len;have g:=d.le;obtain⟨b,o,s,vl,vu,rfl,hb,u,x,f,k⟩:=d.at' j;obtain⟨K,R,P,rfl⟩:=Ia f;have T:=k 11 (O K R P) rfl;have hi:=(lS.1 j).1;have p1:(0:Int)<=(i:Int):=oM;have p2:(i:Int)<(n:Int):=oM;have p3:i<n:=oM;have p4:¬(i:Int)<0:=oM;have t:=ia f;clear d j k u x f z g hi;go_in;go_wp2;go_ret;exact⟨_,rfl,t.o.i eA,eA⟩
def Yd(n:Nat)(i a:Int):Bool:=decide (i<0) || (decide ((n:Int)<=i) || (decide (a<0) || decide (50<a)))
def mG(w:N)(j:E)(l:Option Addr)(n sc:Nat)(i b:Int)(k:∃a n c,j=O a n c):Calls Tryz.prog 99 #[Q #[j,O l n sc],Z X i,Z X b] w fun e o=>e=.returned (I (Yd n i b))/\oa w o:=by
 obtain⟨p,r,q,rfl⟩:=k;by_cases d:i<0
 ·have e:Yd n i b=true:=by unfold Yd;simp[d]
  rw[e];go_in;go_wp2;go_ret;exact⟨rfl,eA⟩
 by_cases f:(n:Int)<=i
 ·have e:Yd n i b=true:=by unfold Yd;simp[f]
  rw[e];go_in;go_wp2;go_ret;exact⟨rfl,eA⟩
 by_cases g:b<0
 ·have e:Yd n i b=true:=by unfold Yd;simp[g]
  rw[e];go_in;go_wp2;go_ret;exact⟨rfl,eA⟩
 ·have e:Yd n i b=decide (50<b):=by unfold Yd;rw[decide_eq_false d,decide_eq_false f,decide_eq_false g];rfl
  rw[e];go_in;go_wp2;go_ret;exact⟨rfl,eA⟩
def rG(w:N)(o a:Obj):((w.alloc o).alloc a).heap[w.heap.size+1]?=C a:=Kc _ _ _ sM
def Xj(w:N)(v:E)(x z:Rat):Prop:=∃a m c s a2 m2 c2 b n k t b2 n2 k2,v=Q #[O a m c,I s,O a2 m2 c2,O b n k,I t,O b2 n2 k2]/\La w (Q #[O a m c,I s,O a2 m2 c2]) x/\La w (Q #[O b n k,I t,O b2 n2 k2]) z
def Xj.ext{w w':N}{v:E}{x z:Rat}(h:Xj w v x z)(k:oa w w'):Xj w' v x z:=by obtain⟨a,m,c,s,d,p,f,b,n,l,t,e,q,o,g,i,j⟩:=h;exact⟨a,m,c,s,d,p,f,b,n,l,t,e,q,o,g,i.ext k,j.ext k⟩
def Vu(w:N)(vx:E)(x:Rat)(p:Pl)(n:Nat)(s vl vu:E)(y:La w vx x)(hb:Rb 1000 x)(j:w.heap[n]?=C (D (Jd p s vl vu) 118 (0,0)))(hl:Aa w vl (za p))(ac:Fb (za p)):Calls Tryz.prog 166 #[vx,Oa (C ⟨n,0,Y⟩)] w fun e w'=>∃v,e=.returned v/\Xj w' v x (Sb (za p) x)/\oa w w':=by
 have HA:=ia (fun W (hW:oa w W)=>tl W vl vx (za p) x (hl.i hW) ac (y.ext hW) hb);obtain⟨P,T,R,xs,d,g,f,rfl⟩:=y.form;obtain⟨la,ln,lc,rfl⟩:=Ia hl;have ae:=ja j 10 (O la ln lc);have zb:=jc j;have af:n<w.heap.size+1:=oM;have ag:n<w.heap.size+1+1:=oM;obtain⟨q,u⟩:=gX (Sb (za p) x);rw[u]at HA ⊢;have Hx:=ia y;clear hl j y u;go_in;go_wp2;refine Ke [(⟨w.heap.size,0,Y⟩,O P T R),(⟨w.heap.size,1,Y⟩,I xs),(⟨w.heap.size,2,Y⟩,O d g f),(⟨n,10,Y⟩,O la ln lc)] cA fun c=>?_;refine sN 0 ?_
 iterate 4 refine Fc ?_
 refine oN ?_;refine Ec (i:=4) (HA.o _ eA) ?_;rintro e z ⟨v3,rfl,k,l⟩;obtain⟨a3,m3,c3,s3,b3,n3,k3,rfl⟩:=k.form;refine⟨_,rfl,(cE c l),fun c=>?_⟩;refine Ac (i:=5) ?_;have b:=l.e (rG w (D #[O P T R,I xs,O d g f] 43) (D #[O Y 0 0,I false,O Y 0 0,O Y 0 0,I false,O Y 0 0] 81));have k0:=ja b 0 (O Y 0 0);have k1:=ja b 1 (I false);have k2:=ja b 2 (O Y 0 0);have ad:=ja b 3 (O Y 0 0);have k4:=ja b 4 (I false);have k5:=ja b 5 (O Y 0 0);have kf:=Vb b;have r:oa w z:=((((eR w).alloc _).alloc _).drew).trans l;have a:=ia (show ∀q∈[((⟨w.heap.size,0,Y⟩:Addr),Value.slice P T R),(⟨w.heap.size,1,Y⟩,I xs),(⟨w.heap.size,2,Y⟩,O d g f),(⟨n,10,Y⟩,O la ln lc)],w.heap.size+1≠q.1.block from fun q u h=>by
  simp at u;rcases u with rfl|rfl|rfl|rfl<;>(dsimp only at h;omega))
 have aa:=ia b;have o:=ia r;have ab:=ia k;clear b r k;refine Je (i:=6) fun K hK=>?_;go_simp;refine kO hK (Ca.set (p:=⟨w.heap.size+1,5,Y⟩) (Ca.set (p:=⟨w.heap.size+1,4,Y⟩) (Ca.set (p:=⟨w.heap.size+1,3,Y⟩) (Ca.set (p:=⟨w.heap.size+1,2,Y⟩) (Ca.set (p:=⟨w.heap.size+1,1,Y⟩) (Ca.set (p:=⟨w.heap.size+1,0,Y⟩) c a.o _) a.o _) a.o _) a.o _) a.o _) a.o _) (fun c=>?_);clear hK K;refine Wd ?_;go_wp2;have n0:Wc 2 z (w.heap.size+1):=by intro cs fr e;rw[aa.o]at e;cases e
 have t:∀(u0 u1 u2 u3 u4 u5:E),Fa 2 z ((((((z.setCell ⟨w.heap.size+1,0,Y⟩ u0).setCell ⟨w.heap.size+1,1,Y⟩ u1).setCell ⟨w.heap.size+1,2,Y⟩ u2).setCell ⟨w.heap.size+1,3,Y⟩ u3).setCell ⟨w.heap.size+1,4,Y⟩ u4).setCell ⟨w.heap.size+1,5,Y⟩ u5):=fun u0 u1 u2 u3 u4 u5=>by
  repeat(first|with_reducible exact Fa.refl _ _|(with_reducible refine Fa.D ?_ ?_ _)|with_reducible exact n0|with_reducible refine Wc.set ?_ _ _)
 refine bR (v:=Q #[O P T R,I xs,O d g f,O a3 m3 c3,I s3,O b3 n3 k3]) (by simp[results,Tryz.results166,go_sem,k0,k1,k2,ad,k4,k5,kf]) rfl ⟨_,rfl,⟨_,_,_,_,_,_,_,_,_,_,_,_,_,_,rfl,(Hx.o.ext o.o).keep (t _ _ _ _ _ _),ab.o.keep (t _ _ _ _ _ _)⟩,?_⟩
 repeat(first|with_reducible exact o.o|(with_reducible refine oa.set ?_ dO _))
end
section
open Go.RowKit Go.Shelf
attribute [local go_sem] Oper.semAt_some
def Ai(o:Rat×Rat)(x:Rat):Rat×Rat:=(Za (-1) [o.1,x],Za 1 [o.2,x])
def Zb(f:Rat->Rat)(o:Rat×Rat)(x:Rat):Rat×Rat:=if (f x).num.sign<=0 then Ai o x else o
def Sf(f:Rat->Rat)(y x:Rat):Rat:=y+f y/(f y-f x)*(x-y)
def ue(f:Rat->Rat)(o:Rat×Rat)(y x:Rat):Rat×Rat:=if (f x).num.sign*(f y).num.sign<0 then Ai o (Sf f y x)else o
def kc(f:Rat->Rat)(a:List Rat)(o:Rat×Rat):Nat->Rat×Rat
 | 0=>o
 | i+1=>if i=0 then Zb f (kc f a o i) (a.getD i 0)else ue f (Zb f (kc f a o i) (a.getD i 0)) (a.getD (i-1) 0) (a.getD i 0)
def Nd(s:Sp)(a:Int)(x:Rat):Rat:=Db s x-(a:Rat)
def Ud(s:Sp)(a:Int):Bool:=decide ((Na s).2.num.sign<0) || decide (0<Pb (Na s).2 (a:Rat))
def Jc(s:Sp)(a:Int):Option (Rat×Rat):=
 if Ud s a=true then Y else C (kc (Nd s a) (Jb s) ((Na s).1,(Na s).1) (Jb s).length)
def Rb.up{j k:Nat}{q:Rat}(h:Rb j q)(a:j<=k):Rb k q:=by exact⟨h.1.mono a,h.2.mono a⟩
def Yl{P:Rat->Prop}(way:Int){p q:Rat}(a:P p)(b:P q):P (Za way [p,q]):=by show P (Qb way p q);rcases Iz way p q with e|e<;>rw[e]<;>assumption
def Rb.wid{k:Nat}{o:Rat×Rat}{x:Rat}(h:Rb k o.1/\Rb k o.2)(a:Rb k x):Rb k (Ai o x).1/\Rb k (Ai o x).2:=⟨Yl _ h.1 a,Yl _ h.2 a⟩
def Rb.pin_g{s:Sp}{a:Int}{x:Rat}(c:Rb 1 x)(h:Dg s)(b:Bd 104000 a):Rb 47 (Nd s a x):=
 (Rb.gap c h).sub (Rb.int (by unfold Bd at b;unfold Lm;have d:(B:Int) ^ 23 ≥ 104001:=dM;omega) dM)
def Rb.cross{f:Rat->Rat}{y x:Rat}(b:Rb 1 y)(e:Rb 1 x)(a:Rb 47 (f y))(d:Rb 47 (f x)):Rb 291 (Sf f y x):=by have c:Rb (47+(2*47+1)+(2*1+1)) (f y/(f y-f x)*(x-y)):=(a.div (a.sub d) dM).mul (e.sub b);exact(b.up (by decide:1<=145)).add c
def Rb.reach_n{f:Rat->Rat}{a:List Rat}{o:Rat×Rat}(k:Rb 300 o.1/\Rb 300 o.2)(e:∀q∈a,Rb 1 q)(j:∀q∈a,Rb 47 (f q)):∀n,n<=a.length->Rb 300 (kc f a o n).1/\Rb 300 (kc f a o n).2:=by
 intro n;induction n with
 | zero=>intro _;exact k
 | succ i l =>
  intro hi;have g:=l oM;have d:a.getD i 0∈a:=by rw[gD,gE oM];exact List.getElem_mem _
  have c:Rb 300 (Zb f (kc f a o i) (a.getD i 0)).1/\Rb 300 (Zb f (kc f a o i) (a.getD i 0)).2:=by
   unfold Zb;split
   ·exact Rb.wid g ((e _ d).up dM)
   ·exact g
  unfold kc;split
  ·exact c
  ·have b:a.getD (i-1) 0∈a:=by rw[gD,gE oM];exact List.getElem_mem _
   unfold ue;split
   ·exact Rb.wid c ((Rb.cross (e _ b) (e _ d) (j _ b) (j _ d)).up dM)
   ·exact c
def Zc.setOther{w:N}{base:Nat}{v:E}{b:List Rat}(h:Zc w base v b){p:Addr}(n:p.block<base)(k:Wc 2 w p.block)(u:E):Zc (w.setCell p u) base v b:=by obtain⟨d,a,f,g⟩:=h;refine⟨d,a.setOther (fun e=>?_) u,f,fun i c q j l=>La.keep (g i c q j l) (Fa.D (Fa.refl _ _) k u)⟩;have:=(a.lt _ e).1;omega
def Qi(w:N)(s:Sp)(b c d:E)(a:List Rat)(o:Rat×Rat)(W:N):Prop:=
 oa w W/\w.heap.size+1+1+1<=W.heap.size/\W.heap[w.heap.size]?=C (D #[b,c,Z X s.lo,Z X s.hi] 157 (0,0))/\
  RB W (w.heap.size+1) o.1/\RB W (w.heap.size+1+1) o.2/\Zc W (w.heap.size+1+1+1) d a
def Qi.ext{w:N}{s:Sp}{b c d:E}{a:List Rat}{o:Rat×Rat}{W W':N}(h:Qi w s b c d a o W)(k:oa W W'):Qi w s b c d a o W':=
 ⟨h.1.trans k,nT h.2.1 k.size,k.e h.2.2.1,h.2.2.2.1.ext k,h.2.2.2.2.1.ext k,h.2.2.2.2.2.ext k⟩
def Zk(W:N){b:Nat}(y:b=W.heap.size){a g e j:Option Addr}{m c o c2 n k r l:Nat}{s t:Bool}{p q:Rat}(v:La W (Q #[O a m c,I s,O g o c2]) p)(w:La W (Q #[O e n k,I t,O j r l]) q):Wf (W.alloc (D #[O a m c,I s,O g o c2,O e n k,I t,O j r l] 43)) (O (C ⟨b,0,Y⟩) 2 2) [p,q]:=by
 subst y;have u:oa W (W.alloc (D #[O a m c,I s,O g o c2,O e n k,I t,O j r l] 43)):=(eR W).alloc _;refine⟨[[O a m c,I s,O g o c2],[O e n k,I t,O j r l]],rfl,by simp,⟨rfl,_,_,rfl,nE _,by unfold maxLen;decide,.inr ⟨_,0,_,_,rfl,aN W _,fun i x h=>by simpa using h⟩⟩,fun i z x d f=>?_⟩
 match i,d,f with
 | 0,d,f=>cases d;cases f;exact v.ext u
 | 1,d,f=>cases d;cases f;exact w.ext u
 | i+2,d,f=>simp at d
def Qi.put2{w:N}{s:Sp}{v1 v2 vq:E}{qs:List Rat}{o:Rat×Rat}{W:N}(h:Qi w s v1 v2 vq qs o W){a l e x:Option Addr}{m c R c2 n k T K:Nat}{s1 t:Bool}{p q:Rat}(y:La W (Q #[O a m c,I s1,O l R c2]) p)(z:La W (Q #[O e n k,I t,O x T K]) q){j g:N}(d:((W.setCell ⟨w.heap.size+1,0,Y⟩ (O a m c)).setCell ⟨w.heap.size+1,1,Y⟩ (I s1)).setCell ⟨w.heap.size+1,2,Y⟩ (O l R c2)=j)(f:((j.setCell ⟨w.heap.size+1+1,0,Y⟩ (O e n k)).setCell ⟨w.heap.size+1+1,1,Y⟩ (I t)).setCell ⟨w.heap.size+1+1,2,Y⟩ (O x T K)=g):Qi w s v1 v2 vq qs (p,q) g/\g.heap.size=W.heap.size/\(∀b r,w.heap.size+1+1<b->RB W b r->RB g b r):=by
 obtain⟨h1,h2,h3,h4,h5,h6⟩:=h;obtain⟨q1,q2,q3,q4,q5,q6⟩:=RB.copy2 h4 h5 oM y z d f;have i:=h4.not;have N2:=h5.not;refine⟨⟨q6 w h1 oM oM,by omega,?_,q1,q2,?_⟩,q5,fun b r hb=>q3 b r oM oM⟩
 ·rw[<-f,<-d]
  repeat rw[bS _ _ _ _ dO]
  exact h3
 ·have u:w.heap.size+1<w.heap.size+1+1+1:=oM;have v:w.heap.size+1+1<w.heap.size+1+1+1:=oM;have g1:=((h6.setOther (p:=⟨w.heap.size+1,0,Y⟩) u i (O a m c)).setOther (p:=⟨w.heap.size+1,1,Y⟩) u (i.set _ _) (I s1)).setOther (p:=⟨w.heap.size+1,2,Y⟩) u ((i.set _ _).set _ _) (O l R c2);rw[d]at g1;have P:Wc 2 j (w.heap.size+1+1):=by rw[<-d];exact((N2.set _ _).set _ _).set _ _
  have g2:=((g1.setOther (p:=⟨w.heap.size+1+1,0,Y⟩) v P (O e n k)).setOther (p:=⟨w.heap.size+1+1,1,Y⟩) v (P.set _ _) (I t)).setOther (p:=⟨w.heap.size+1+1,2,Y⟩) v ((P.set _ _).set _ _) (O x T K);rw[f]at g2;exact g2
end
section
open Go.RowKit Go.Shelf Go.Sort
def TH{β:Type}[Inhabited β]{lt:β->β->Bool}(hO:SWO lt)(d:Array β)(l:Nat):(pdq lt d 0 d.size l true true).toList.Pairwise fun x y=>lt y x=false:=by obtain⟨⟨f,_,_⟩,e⟩:=pdq_sorts lt hO d 0 d.size l true true (Nat.zero_le _) (nE _) (Or.inl rfl);rw[List.pairwise_iff_getElem];intro i j hi c a;simp at hi c;have b:=e i j (Nat.zero_le _) a oM;rw[getElem!_pos _ i hi,getElem!_pos _ j c]at b;simpa using b
def Iu{ps:LP}(h:∀x∈ps,BP x):(re ps).Pairwise fun x y=>x.1<=y.1:=by unfold re Dh;rw[dif_pos h];rw[List.pairwise_map];have b:=@TH {x // BP x} ⟨Ev⟩ _ Dl (ps.attachWith BP h).toArray (Lib.bitLen ps.length);rw[show (ps.attachWith BP h).toArray.size=ps.length by simp]at b;refine b.imp fun {x y} a=>?_;rw[Ks]at a;simpa using a
def UB{α:Type}[DecidableEq α]:∀(a:α)(r:List α),∃t,Ja (a::r)=a::t
 | a,[]=>⟨[],rfl⟩
 | a,b::r=>by
  by_cases h:a=b
  ·obtain⟨t,e⟩:=UB b r;exact⟨t,by rw[Ja,if_pos h,e,h]⟩
  ·exact⟨Ja (b::r),by rw[Ja,if_neg h]⟩
def jh.cons{a b:Int×Int}{r:LP}(d:a.1<=b.1)(f:a≠b)(h:jh (b::r)):jh (a::b::r):=by
 intro e c;unfold yb at c;rcases List.mem_cons.1 c with rfl|c
 ·exact⟨d,f⟩
 ·exact h e c
def AB:∀(l:LP),l.Pairwise (fun x y=>x.1<=y.1)->jh (Ja l)
 | [],_=>by intro e f;simp[Ja,yb]at f
 | [a],_=>by intro e f;simp[Ja,yb]at f
 | a::b::r,h=>by
  have d:=AB (b::r) (List.pairwise_cons.1 h).2;by_cases c:a=b
  ·rw[Ja,if_pos c];exact d
  ·rw[Ja,if_neg c];obtain⟨t,e⟩:=UB b r;rw[e]at d ⊢;exact jh.cons ((List.pairwise_cons.1 h).1 b List.mem_cons_self) c d
def DH{k:Int}{a:LP}(c:Se k a)(b:k<=1000000):jh (Gc a):=
 AB _ (Iu fun x d=>by
  have:=c x d;unfold BP;exact⟨this.1.mono b,this.2.mono b⟩)
def QE{p:Pl}(h:Ea p=true):jh (Ra p):=by obtain⟨a,c,Sh⟩:=ip h;have b:=yo a (nE _);exact DH b.2 dM
def KI{g:LP}(h:ub g=true):jh g:=by
 unfold ub at h;simp only[Bool.and_eq_true,List.all_eq_true,List.mem_range]at h;intro e d;unfold yb at d;obtain⟨i,hi,rfl⟩:=List.getElem_of_mem d;have c:i+1<g.length:=by rw[List.length_zip,List.length_tail]at hi;omega
 have a:=h.2 (i+1) c;unfold Qf at a;simp only[Bool.and_eq_true,Bool.or_eq_true,decide_eq_true_eq,beq_iff_eq,Nat.add_one_ne_zero,false_or,Nat.add_sub_cancel]at a;have b:=a.2.2;rw[gD,gD,gE oM,gE c]at b;simp only[Option.getD_some]at b;have f:(g.zip g.tail)[i]'hi=(g[i]' oM,g[i+1]'c):=sM;rw[f];exact⟨by dsimp only;omega,fun e=>by dsimp only at e;rw[e]at b;omega⟩
def AC(f:Rat->Rat)(a:List Rat):Prop:=∀(i:Nat) y x,a[i]?=C y->a[i+1]?=C x->¬(f x).num.sign*(f y).num.sign<0
def iu(f:Rat->Rat){xs:List Rat}:∀x∈xs,(Sc f xs).2<=f x:=by
 have key:∀(c:List Rat)(a:Rat×Rat),(c.foldl (Ya f) a).2<=a.2/\∀x∈c,(c.foldl (Ya f) a).2<=f x:=by
  intro c;induction c with
  | nil=>intro a;exact⟨Rat.le_refl,fun x b=>by simp at b⟩
  | cons y c i =>
   intro a;obtain⟨d,e⟩:=i (Ya f a y);have g:(Ya f a y).2<=a.2/\(Ya f a y).2<=f y:=by
    unfold Ya;split
    ·rename_i h;rw[xl]at h;exact⟨Rat.le_of_lt h,Rat.le_refl⟩
    ·rename_i h;rw[xl]at h;exact⟨Rat.le_refl,Rat.not_lt.1 h⟩
   refine⟨Rat.le_trans d g.1,fun x b=>?_⟩;rcases List.mem_cons.1 b with rfl|b
   ·exact Rat.le_trans d g.2
   ·exact e x b
 cases xs with
 | nil=>intro x b;simp at b
 | cons y c =>
  intro x b;obtain⟨d,e⟩:=key c (y,f y);rcases List.mem_cons.1 b with rfl|b
  ·exact d
  ·exact e x b
def rK{q:Rat}(h:0<=q):0<=q.num.sign:=by
 have:=Rat.num_nonneg.2 h;rcases Int.lt_or_eq_of_le this with a|a
 ·rw[Int.sign_eq_one_of_pos a];decide
 ·rw[<-a];decide
def EF{s:Sp}(h:Ud s 0=false):AC (Nd s 0) (Jb s):=by
 unfold Ud at h;simp only[Bool.or_eq_false_iff,decide_eq_false_iff_not]at h;have g:0<=(Na s).2:=by
  refine Rat.not_lt.1 fun b=>h.1 ?_;refine Int.sign_neg_iff.2 (Int.not_le.1 fun k=>?_);exact absurd b (Rat.not_lt.2 (Rat.num_nonneg.1 k))
 have a:∀x∈Jb s,0<=(Nd s 0 x).num.sign:=fun x c=>by
  refine rK ?_;have j:(Na s).2<=Db s x:=iu (Db s) x c;have e:Nd s 0 x=Db s x:=by unfold Nd;simp[Rat.sub_eq_add_neg,Rat.add_zero]
  rw[e];exact Rat.le_trans g j
 intro i y x l c;have d:=a y (lM l);have f:=a x (lM c);have:=Int.mul_nonneg f d;omega
end
section
open Go.RowKit Go.Shelf
attribute [local go_sem] Oper.semAt_some
def Fj(w:N)(o:Option (Rat×Rat))(e:Ending)(w':N):Prop:=oa w w'/\∃r1 r2,La w' r1 (o.getD (0,0)).1/\La w' r2 (o.getD (0,0)).2/\e=.returned (.tuple #[r1,r2,I o.isSome])
def Zs{k:Nat}{a:Int}(h:Bd 104000 a)(b:1<=k):Rb k (a:Rat):=(me h).up b
def uF(w:N)(v1 v2:E)(s:Sp)(b:Int)(h1:Aa w v1 s.over)(h2:Aa w v2 s.under)(ab:Dg s)(hp:Bd 104000 b)(p:Ud s b=true):Calls Tryz.prog 165 #[Lh s v1 v2,Z X b] w (Fj w (Jc s b)):=by
 have HS:=ia (fun(W:N)(hW:oa w W)=>js W v1 v2 s (h1.i hW) (h2.i hW) ab);obtain⟨a1,m1,rfl⟩:=h1.form;obtain⟨a2,m2,rfl⟩:=h2.form;obtain⟨n1,f1⟩:=gX s.over.length;obtain⟨n2,f2⟩:=gX s.under.length;obtain⟨lo,ao⟩:=gX s.lo;obtain⟨hi,an⟩:=gX s.hi;have am:=ia (show Rb 23 (Na s).2 by obtain⟨j1,j2⟩:=Bl (Db s) (Ol s);unfold Na;rw[j2];exact Rb.gap (Vi ab _ j1) ab);have Hp:=ia hp;have az:-9223372036854775808<=b:=by unfold Bd at hp;omega
 have aA:b<=9223372036854775807:=by unfold Bd at hp;omega
 have HC:=ia (fun(W:N)(va vb:E)(ha:La W va (Na s).2)(hb:La W vb (b:Rat))=>Mi W va vb _ _ ha hb (od am.o oM) (od (Zs (k:=1) Hp.o oM) oM));have hR:Jc s b=Y:=by unfold Jc;rw[if_pos p]
 rw[hR];unfold Ud at p;obtain⟨q1,aq⟩:=gX ((Na s).1);obtain⟨q2,af⟩:=gX ((Na s).2);unfold Lh at HS ⊢;rw[af]at p HC am;rw[aq,af]at HS;simp only[f1,f2,ao,an]at HS ⊢;clear h1 h2 ab f1 f2 ao an hR aq af hp;go_in;go_wp2_with(((go_at_call 83;refine cM (HS.o _ eA) ?_;rintro e w1 ⟨r1,r2,rfl,ar,T,aa⟩;obtain⟨a4,m4,c4,s4,b4,n4,k4,rfl⟩:=ar.form;obtain⟨a5,m5,c5,s5,b5,n5,k5,rfl⟩:=T.form;obtain⟨⟨ax,ay⟩,aB,aC,aD⟩:=oc w aa)));obtain⟨j,d⟩:=gX (((w1.alloc (D #[O a4 m4 c4,I s4,O b4 n4 k4] 43)).alloc (D #[O a5 m5 c5,I s5,O b5 n5 k5] 43)));have g:oa w1 j:=by rw[<-d];exact((eR _).alloc _).alloc _
 have ap:oa w j:=(((((eR w).alloc _).alloc _).alloc _).trans aa).trans g;have g1:RB j w1.heap.size q1:=by rw[<-d];exact(RB.new ar rfl).ext ((eR _).alloc _)
 have g2:RB j (w1.heap.size+1) q2:=by rw[<-d];exact RB.new (T.ext ((eR _).alloc _)) sM
 have g3:RB j (w.heap.size+1) 0:=(((RB.new (La.zero _) sM).ext ((eR _).alloc _)).ext aa).ext g;have g4:RB j (w.heap.size+1+1) 0:=((RB.new (La.zero _) sM).ext aa).ext g;have zW:w1.heap.size+1<j.heap.size:=by rw[<-d];simp
 have aE:=ja (show j.heap[w1.heap.size+1]?=C (D #[O a5 m5 c5,I s5,O b5 n5 k5] 43 (0,0)) by rw[<-d];exact Kc _ _ _ sM) 0 (O a5 m5 c5);have aF:=ja (show j.heap[w1.heap.size+1]?=C (D #[O a5 m5 c5,I s5,O b5 n5 k5] 43 (0,0)) by rw[<-d];exact Kc _ _ _ sM) 1 (I s5);have aG:=ja (show j.heap[w1.heap.size+1]?=C (D #[O a5 m5 c5,I s5,O b5 n5 k5] 43 (0,0)) by rw[<-d];exact Kc _ _ _ sM) 2 (O b5 n5 k5);have HX:=ia g;have al:=ia ap;rw[d];obtain⟨s1,av⟩:=gX w1.heap.size;simp only[av]at *;clear d ax ay aa g ap HS av;obtain⟨k,hk⟩:=gX q2.num.sign;have ak:=ia (fun(W:N)(v:E)(h:La W v q2)=>hk▸Xl W v q2 h);rw[hk]at p;clear hk;by_cases hneg:k<0
 ·have hd:decide (k<0)=true:=by simp[hneg]
  refine Ke [(⟨s1+1,0,Y⟩,O a5 m5 c5),(⟨s1+1,1,Y⟩,I s5),(⟨s1+1,2,Y⟩,O b5 n5 k5)] cA fun a=>?_;refine Ac (i:=0) ?_;refine Ec (i:=1) (ak.o _ _ (T.ext (oa.trans HX.o eA))) ?_;rintro e w3 ⟨rfl,x⟩;refine⟨_,rfl,(cE a x),fun a=>?_⟩;refine sN 2 ?_
  iterate 2 refine Fc ?_
  iterate 5 refine fi ?_
  refine Fc ?_;refine oN ?_;refine Wd ?_;go_wp2;have X3:oa j w3:=((eR j).drew).trans x;have y:=g3.ext X3;have z:=g4.ext X3;obtain⟨pa,pm,r,ps,q,u,t,p0,p1,p2,ah,ai,aj,pz,P⟩:=y.rd;obtain⟨ea,em,ec,es,l,o,n,e0,e1,e2,ac,ad,ae,ez,R⟩:=z.rd;refine tp (fun i=>decide (2<i)) (Ca [(⟨w.heap.size+1,0,Y⟩,O pa pm r),(⟨w.heap.size+1,1,Y⟩,I ps),(⟨w.heap.size+1,2,Y⟩,O q u t),(⟨w.heap.size+1+1,0,Y⟩,O ea em ec),(⟨w.heap.size+1+1,1,Y⟩,I es),(⟨w.heap.size+1+1,2,Y⟩,O l o n)]) kM ?_ (fun a=>?_)
  ·exact cA
  refine sN 0 ?_
  iterate 2 refine so ?_
  refine oN ?_;refine Ah (i:=2) fun K f=>?_;go_simp;refine kO f (fun _=>?_) (fun a=>?_)
  ·exact cA
  clear f K;have a:=a rfl;refine Ah (i:=3) fun K f=>?_;go_simp;refine kO f (fun h=>nomatch h) (fun a=>?_);clear f K;refine Ah (i:=4) fun K f=>?_;go_simp;refine kO f (fun h=>nomatch h) (fun a=>?_);clear f K;refine Le kM ?_ _;go_wp2;refine bR (v:=.tuple #[Q #[O pa pm r,I ps,O q u t],Q #[O ea em ec,I es,O l o n],I false]) (by simp[results,Tryz.results165,go_sem,p0,p1,p2,ah,ai,aj,e0,e1,e2,ac,ad,ae]) rfl ?_;obtain⟨P1,P2,P3,P4,P5,P6⟩:=RB.copy2 y z oM P R rfl rfl;refine⟨(P6 w (al.o.trans X3) oM oM).drew,Q #[O pa pm r,I ps,O q u t],Q #[O ea em ec,I es,O l o n],?_,?_,rfl⟩
  ·exact(P.keep P4).ext (eR _).drew
  ·exact(R.keep P4).ext (eR _).drew
 ·have hd:decide (k<0)=false:=by simp[hneg]
  rw[hd,Bool.false_or]at p;obtain⟨c,hc⟩:=gX (Pb q2 (b:Rat));rw[hc]at p HC;clear hc;have aH:0<c:=by simpa using p
  refine Ke [(⟨s1+1,0,Y⟩,O a5 m5 c5),(⟨s1+1,1,Y⟩,I s5),(⟨s1+1,2,Y⟩,O b5 n5 k5)] cA fun a=>?_;have E0:oa w1 j.drew:=HX.o.trans (eR j).drew;refine Ac (i:=0) ?_;refine Ec (i:=1) (ak.o _ _ (T.ext E0)) ?_;rintro e w3 ⟨rfl,x⟩;refine⟨_,rfl,(cE a x),fun a=>?_⟩;refine sN 2 ?_
  iterate 4 refine Fc ?_
  refine oN ?_;refine Ec (i:=6) (vi _ b az aA) ?_;rintro e w4 ⟨r4,rfl,au,ag⟩;obtain⟨a6,m6,c6,s6,b6,n6,k6,rfl⟩:=au.form;refine⟨_,rfl,(cE a ag),fun a=>?_⟩;refine Ec (i:=7) (HC.o _ _ _ (T.ext (E0.trans (x.trans ag))) au) ?_;rintro e w5 ⟨rfl,aw⟩;refine⟨_,rfl,(cE a aw),fun a=>?_⟩;refine sN 8 ?_
  iterate 2 refine Fc ?_
  refine oN ?_;refine Wd ?_;have X3:oa j w5:=((eR j).drew).trans (x.trans (ag.trans aw));have y:=g3.ext X3;have z:=g4.ext X3;go_wp2;obtain⟨pa,pm,r,ps,q,u,t,p0,p1,p2,ah,ai,aj,pz,P⟩:=y.rd;obtain⟨ea,em,ec,es,l,o,n,e0,e1,e2,ac,ad,ae,ez,R⟩:=z.rd;refine tp (fun i=>decide (2<i)) (Ca [(⟨w.heap.size+1,0,Y⟩,O pa pm r),(⟨w.heap.size+1,1,Y⟩,I ps),(⟨w.heap.size+1,2,Y⟩,O q u t),(⟨w.heap.size+1+1,0,Y⟩,O ea em ec),(⟨w.heap.size+1+1,1,Y⟩,I es),(⟨w.heap.size+1+1,2,Y⟩,O l o n)]) kM ?_ (fun a=>?_)
  ·exact cA
  refine sN 0 ?_
  iterate 2 refine so ?_
  refine oN ?_;refine Ah (i:=2) fun K f=>?_;go_simp;refine kO f (fun _=>?_) (fun a=>?_)
  ·exact cA
  clear f K;have a:=a rfl;refine Ah (i:=3) fun K f=>?_;go_simp;refine kO f (fun h=>nomatch h) (fun a=>?_);clear f K;refine Ah (i:=4) fun K f=>?_;go_simp;refine kO f (fun h=>nomatch h) (fun a=>?_);clear f K;refine Le kM ?_ _;go_wp2;refine bR (v:=.tuple #[Q #[O pa pm r,I ps,O q u t],Q #[O ea em ec,I es,O l o n],I false]) (by simp[results,Tryz.results165,go_sem,p0,p1,p2,ah,ai,aj,e0,e1,e2,ac,ad,ae]) rfl ?_;obtain⟨P1,P2,P3,P4,P5,P6⟩:=RB.copy2 y z oM P R rfl rfl;refine⟨(P6 w (al.o.trans X3) oM oM).drew,Q #[O pa pm r,I ps,O q u t],Q #[O ea em ec,I es,O l o n],?_,?_,rfl⟩
  ·exact(P.keep P4).ext (eR _).drew
  ·exact(R.keep P4).ext (eR _).drew
end
section
open Go.RowKit Go.Shelf Go.Sort
def fD{x y:Int}(h:0<x)(k:x*y<=0):y<=0:=by
 by_cases a:y<=0
 ·exact a
 ·have:=Int.mul_pos h (show 0<y by omega);omega
def iD{x y:Int}(h:0<x)(k:x*y<0):y<0:=by
 by_cases a:y<0
 ·exact a
 ·have:=Int.mul_nonneg (Int.le_of_lt h) (show 0<=y by omega);omega
def uG{px d qx g c f:Int}(k:0<px)(l:qx<=0)(n:0<c)(i:0<px*f-d*c)(j:0<qx*f-g*c):px*g-d*qx<0:=by
 have e:c*(px*g-d*qx)=qx*(px*f-d*c)-px*(qx*f-g*c):=by grind
 have a:=Int.mul_pos k j;have b:qx*(px*f-d*c)<=0:=Int.mul_nonpos_of_nonpos_of_nonneg l (Int.le_of_lt i);exact iD n oM
def AA{f g c i d j:Int}(p:0<f)(n:c<0)(o:0<d)(k:0<=f*i-g*c)(l:0<=f*j-g*d):c*j-i*d<=0:=by
 have e:f*(c*j-i*d)=c*(f*j-g*d)-d*(f*i-g*c):=by grind
 have a:0<=d*(f*i-g*c):=Int.mul_nonneg (Int.le_of_lt o) k;have b:c*(f*j-g*d)<=0:=Int.mul_nonpos_of_nonpos_of_nonneg (Int.le_of_lt n) l;exact fD p oM
def si(cs:LP)(u v:Int×Int):Prop:=ld cs u v/\u.1<v.1
def Ld(cs:LP)(q:Int×Int):Prop:=∃u v,si cs u v/\(q=u\/q=v)
def Qe.left0{cs:LP}(h:Qe cs){u v c:Int×Int}(d:ld cs u v)(b:c∈cs):0<=Ce u v c:=by
 by_cases a:c=u
 ·subst a;unfold Ce;grind
 ·by_cases hv:c=v
  ·subst hv;unfold Ce;grind
  ·exact Int.le_of_lt (h.left u v d c b a hv)
def Ld.mem{cs:LP}{q:Int×Int}(h:Ld cs q):q∈cs:=by
 obtain⟨u,v,⟨a,_⟩,rfl|rfl⟩:=h
 ·exact a.mem.1
 ·exact a.mem.2
def Ld.uniq{cs:LP}(h:Qe cs){u w:Int×Int}(f:Ld cs u)(c:Ld cs w)(d:u.1=w.1):u=w:=by
 have key:∀{u w:Int×Int},Ld cs u->Ld cs w->u.1=w.1->¬u.2<w.2:=by
  intro u w f c d n;obtain⟨a,b,⟨j,i⟩,c⟩:=c;have g:=h.left0 j f.mem;unfold Ce at g;rcases c with rfl|rfl
  ·have e:(b.1-w.1)*(u.2-b.2)-(b.2-w.2)*(u.1-b.1)=(b.1-w.1)*(u.2-w.2):=by rw[d];grind
   rw[e]at g;have:=Int.mul_neg_of_pos_of_neg (show 0<b.1-w.1 by omega) (show u.2-w.2<0 by omega);omega
  ·have e:(w.1-a.1)*(u.2-w.2)-(w.2-a.2)*(u.1-w.1)=(w.1-a.1)*(u.2-w.2):=by rw[d];grind
   rw[e]at g;have:=Int.mul_neg_of_pos_of_neg (show 0<w.1-a.1 by omega) (show u.2-w.2<0 by omega);omega
 have k:=key f c d;have l:=key c f d.symm;exact Prod.ext d oM
def ld.next{cs:LP}{a:Int×Int}(h:a∈cs)(b:2<=cs.length):∃s,ld cs a s:=by
 obtain⟨A,B,rfl⟩:=List.append_of_mem h;cases B with
 | cons s B=>exact⟨s,.inl ⟨A,B,rfl⟩⟩
 |nil=>
  cases A with
  | nil=>simp at b
  | cons v M=>exact⟨v,.inr ⟨M,by simp⟩⟩
def Ld.goes{cs:LP}(h:Qe cs){a b:Int×Int}(f:Ld cs a)(o:b∈cs)(r:a.1<b.1):∃b',si cs a b':=by
 obtain⟨u,v,⟨d,l⟩,f⟩:=f;rcases f with rfl|rfl
 ·exact⟨v,d,l⟩
 ·obtain⟨s,j⟩:=ld.next d.mem.2 (by have:=h.three;omega);by_cases k:a.1<s.1
  ·exact⟨s,j,k⟩
  ·exfalso;have g:b≠s:=by rintro rfl;omega
   have c:b≠a:=by rintro rfl;omega
   have i:b≠u:=by rintro rfl;omega
   have n:=h.left u a d b o i c;have e:=h.left a s j b o c g;have q:=h.left0 d j.mem.2;unfold Ce at n e q;have p:(s.1-a.1)*(b.2-s.2)-(s.2-a.2)*(b.1-s.1)=(s.1-a.1)*(b.2-a.2)-(s.2-a.2)*(b.1-a.1):=by grind
   rw[p]at e;have:=uG (show 0<a.1-u.1 by omega) (show s.1-a.1<=0 by omega) (show 0<b.1-a.1 by omega) n e;omega
def Ld.edge{cs:LP}(h:Qe cs){a b:Int×Int}(z:Ld cs a)(l:Ld cs b)(n:a.1<b.1)(s:∀q,Ld cs q->¬(a.1<q.1/\q.1<b.1)):si cs a b:=by
 obtain⟨e,i,v⟩:=z.goes h l.mem n;have f:Ld cs e:=⟨a,e,⟨i,v⟩,.inr rfl⟩;by_cases p:e.1=b.1
 ·rw[<-f.uniq h l p];exact⟨i,v⟩
 ·have P:b.1<e.1:=by
   have:=s e f;omega
  exfalso;have o:b≠a:=by rintro rfl;omega
  have g:b≠e:=by rintro rfl;omega
  have t:=h.left a e i b l.mem o g;obtain⟨c,d,⟨u,K⟩,r⟩:=l;have j:=h.left0 u i.mem.1;have k:=h.left0 u i.mem.2;unfold Ce at t j k;have w:(e.1-a.1)*(b.2-e.2)-(e.2-a.2)*(b.1-e.1)=(a.1-b.1)*(e.2-b.2)-(a.2-b.2)*(e.1-b.1):=by grind
  rw[w]at t;rcases r with rfl|rfl
  ·have x:(d.1-b.1)*(a.2-d.2)-(d.2-b.2)*(a.1-d.1)=(d.1-b.1)*(a.2-b.2)-(d.2-b.2)*(a.1-b.1):=by grind
   have y:(d.1-b.1)*(e.2-d.2)-(d.2-b.2)*(e.1-d.1)=(d.1-b.1)*(e.2-b.2)-(d.2-b.2)*(e.1-b.1):=by grind
   rw[x]at j;rw[y]at k;have:=AA (show 0<d.1-b.1 by omega) (show a.1-b.1<0 by omega) (show 0<e.1-b.1 by omega) j k;omega
  ·have:=AA (show 0<b.1-c.1 by omega) (show a.1-b.1<0 by omega) (show 0<e.1-b.1 by omega) j k;omega
end
section
open Go.RowKit Go.Shelf Go.Sort Go.Lib
def Rl{l m:LP}(r:l.Perm m)(p:∀x∈l,BP x)(c:m.Pairwise fun x y=>x.1<y.1):re l=m:=by
 have k:=Iu p;have f:=(Wm l).trans r;refine List.Perm.eq_of_pairwise (le:=fun x y=>x.1<=y.1) ?_ k (c.imp fun h=>by omega) f;intro a b n e o q;have d:a∈m:=f.mem_iff.1 n;obtain⟨i,hi,rfl⟩:=List.getElem_of_mem d;obtain⟨j,g,rfl⟩:=List.getElem_of_mem e;rw[List.pairwise_iff_getElem]at c;rcases Nat.lt_trichotomy i j with h|h|h
 ·have:=c i j hi g h;omega
 ·subst h;rfl
 ·have:=c j i g hi h;omega
def Yi(z:Int):List Int->List Int
 | []=>[z]
 | y::ys=>if z<=y then z::y::ys else y::Yi z ys
def xj:List Int->List Int
 | []=>[]
 | z::zs=>Yi z (xj zs)
def tu(z:Int):∀ys,(Yi z ys).Perm (z::ys)
 | []=>List.Perm.refl _
 | y::ys=>by
  unfold Yi;split
  ·exact List.Perm.refl _
  ·exact((tu z ys).cons y).trans (List.Perm.swap _ _ _)
def lB(z:Int):∀ys,ys.Pairwise (fun x y:Int=>x<=y)->(Yi z ys).Pairwise (fun x y:Int=>x<=y)
 | [],_=>by unfold Yi;exact List.pairwise_singleton _ _
 | y::ys,h=>by
  obtain⟨c,d⟩:=List.pairwise_cons.1 h;unfold Yi;split
  ·rename_i hz;refine List.pairwise_cons.2 ⟨fun a b=>?_,h⟩;rcases List.mem_cons.1 b with rfl|b
   ·exact hz
   ·exact Int.le_trans hz (c a b)
  ·rename_i hz;refine List.pairwise_cons.2 ⟨fun a b=>?_,lB z ys d⟩;rcases List.mem_cons.1 ((tu z ys).mem_iff.1 b)with rfl|b
   ·omega
   ·exact c a b
def RA:∀zs,(xj zs).Perm zs
 | []=>List.Perm.refl _
 | z::zs=>(tu z _).trans ((RA zs).cons z)
def JA:∀zs,(xj zs).Pairwise (fun x y:Int=>x<=y)
 | []=>List.Pairwise.nil
 | z::zs=>lB z _ (JA zs)
def Qr:Af=xj:=by
 funext zs
 unfold Af;refine List.Perm.eq_of_pairwise (le:=fun x y:Int=>x<=y) (fun a b _ _ d e=>Int.le_antisymm d e) ?_ (JA zs) ((List.mergeSort_perm zs _).trans (RA zs).symm);have:=List.pairwise_mergeSort (le:=fun x y:Int=>decide (x<=y)) (fun a b c d e=>by simp at *;omega) (fun a b=>by simp;omega) zs;exact this.imp fun h=>by simpa using h
end
section
open Go.RowKit Go.Shelf Go.Sort
def Mf(p:Int×Int):Int×Int:=(-p.1,-p.2)
def sj(p:Int×Int):Mf (Mf p)=p:=by unfold Mf;simp
def Qe.ng{cs:LP}(h:Qe cs):Qe (cs.map Mf):=
 h.map _ (fun u v c=>by unfold Ce Mf;dsimp only;grind) (fun x y e=>by rw[<-sj x,e,sj])
def ld.maps{cs:LP}(f:Int×Int->Int×Int){u v:Int×Int}(h:ld cs u v):ld (cs.map f) (f u) (f v):=by
 rcases h with ⟨A,B,rfl⟩|⟨M,rfl⟩
 ·exact .inl ⟨A.map f,B.map f,by simp⟩
 ·exact .inr ⟨M.map f,by simp⟩
def ld.ng{cs:LP}{u v:Int×Int}(h:ld (cs.map Mf) u v):ld cs (Mf u) (Mf v):=by
 have:=h.maps Mf
 rwa [List.map_map,show Mf ∘ Mf=id from funext sj,List.map_id]at this
def qk(cs:LP)(u v:Int×Int):Prop:=ld cs u v/\v.1<u.1
def Vg(cs:LP)(q:Int×Int):Prop:=∃u v,qk cs u v/\(q=u\/q=v)
def qk.ng{cs:LP}{u v:Int×Int}:qk cs u v ↔ si (cs.map Mf) (Mf u) (Mf v):=by
 constructor
 ·rintro ⟨h,k⟩;exact⟨h.maps Mf,by unfold Mf;dsimp only;omega⟩
 ·rintro ⟨h,k⟩;have:=h.ng;rw[sj,sj]at this;exact⟨this,by unfold Mf at k;dsimp only at k;omega⟩
def Vg.ng{cs:LP}{q:Int×Int}:Vg cs q ↔ Ld (cs.map Mf) (Mf q):=by
 constructor
 ·rintro ⟨u,v,h,a⟩;exact⟨Mf u,Mf v,qk.ng.1 h,by rcases a with rfl|rfl<;>simp⟩
 ·rintro ⟨u,v,h,a⟩;refine⟨Mf u,Mf v,qk.ng.2 (by rw[sj,sj];exact h),?_⟩;rcases a with rfl|rfl
  ·exact .inl (sj q).symm
  ·exact .inr (sj q).symm
def Vg.uniq{cs:LP}(h:Qe cs){u w:Int×Int}(a:Vg cs u)(b:Vg cs w)(c:u.1=w.1):u=w:=by have:=Ld.uniq h.ng (Vg.ng.1 a) (Vg.ng.1 b) (by unfold Mf;dsimp only;omega);rw[<-sj u,this,sj]
def Vg.edge{cs:LP}(h:Qe cs){a b:Int×Int}(e:Vg cs a)(g:Vg cs b)(f:a.1<b.1)(c:∀q,Vg cs q->¬(a.1<q.1/\q.1<b.1)):qk cs b a:=by refine qk.ng.2 (Ld.edge h.ng (Vg.ng.1 g) (Vg.ng.1 e) (by unfold Mf;dsimp only;omega) (fun q i d=>?_));refine c (Mf q) (Vg.ng.2 (by rw[sj];exact i)) ?_;unfold Mf at d ⊢;dsimp only at d ⊢;omega
def Yq{cs:LP}(b:2<=cs.length){u v:Int×Int}:ld cs u v ↔ ∃i,i<cs.length/\cs.getD i (0,0)=u/\cs.getD ((i+1)%cs.length) (0,0)=v:=by
 constructor
 ·rintro (⟨A,B,e⟩|⟨M,e⟩)
  ·have k:A.length+1<cs.length:=by rw[e];simp
   refine⟨A.length,by omega,?_,?_⟩
   ·rw[gD,e];simp
   ·rw[Nat.mod_eq_of_lt k,gD,e];simp
  ·have l:cs.length=M.length+2:=by rw[e];simp
   refine⟨M.length+1,by omega,?_,?_⟩
   ·rw[gD,e];simp
   ·rw[show M.length+1+1=cs.length by omega,Nat.mod_self,gD,e];simp
 ·rintro ⟨i,hi,rfl,rfl⟩;have g:∀j,(hj:j<cs.length)->cs.getD j (0,0)=cs[j]:=fun j hj=>by rw[gD,gE hj];rfl
  by_cases a:i+1<cs.length
  ·rw[Nat.mod_eq_of_lt a,g i hi,g (i+1) a];refine .inl ⟨cs.take i,cs.drop (i+1+1),?_⟩;rw[<-List.drop_eq_getElem_cons a,<-List.drop_eq_getElem_cons hi,List.take_append_drop]
  ·have e:i+1=cs.length:=oM;rw[e,Nat.mod_self,g i hi,g 0 oM]
   right
   cases cs with
   | nil=>simp at b
   | cons v r =>
    (have c:r≠[]:=by rintro rfl;simp at b);refine⟨r.dropLast,?_⟩;have f:(v::r)[i]=r.getLast c:=by
     rw[List.getLast_eq_getElem];simp only[List.length_cons]at e;obtain⟨d,rfl⟩:∃d,i=d+1:=⟨i-1,by have:=List.length_pos_iff.2 c;omega⟩;simp only[List.getElem_cons_succ]
     congr 1
     omega
    rw[f];simp[List.dropLast_concat_getLast]
def Su{cs:LP}(b:2<=cs.length){q:Int×Int}:q∈Dc cs cs.length ↔ Ld cs q:=by
 unfold Dc Ld si;rw[List.mem_flatMap];constructor
 ·rintro ⟨i,hi,a⟩;rw[List.mem_range]at hi;unfold Kd at a;split at a
  ·rename_i hx;refine⟨_,_,⟨(Yq b).2 ⟨i,hi,rfl,rfl⟩,hx⟩,?_⟩;simpa using a
  ·cases a
 ·rintro ⟨u,v,⟨c,hx⟩,a⟩;obtain⟨i,hi,rfl,rfl⟩:=(Yq b).1 c;refine⟨i,List.mem_range.2 hi,?_⟩;unfold Kd;rw[if_pos hx];simpa using a
def ru{cs:LP}(b:2<=cs.length){q:Int×Int}:q∈Ad cs cs.length ↔ Vg cs q:=by
 unfold Ad Vg qk;rw[List.mem_flatMap];constructor
 ·rintro ⟨i,hi,a⟩;rw[List.mem_range]at hi;unfold xe at a;split at a
  ·rename_i hx;refine⟨_,_,⟨(Yq b).2 ⟨i,hi,rfl,rfl⟩,hx⟩,?_⟩;simpa using a
  ·cases a
 ·rintro ⟨u,v,⟨c,hx⟩,a⟩;obtain⟨i,hi,rfl,rfl⟩:=(Yq b).1 c;refine⟨i,List.mem_range.2 hi,?_⟩;unfold xe;rw[if_pos hx];simpa using a
def Yr{α:Type}[DecidableEq α]:∀{c:List α}{x:α},x∈c->x∈Ja c
 | [a],x,h=>by simpa[Ja] using h
 | a::b::r,x,h=>by
  rw[Ja];split
  ·rename_i e;subst e;rcases List.mem_cons.1 h with rfl|h
   ·exact Yr (by simp)
   ·exact Yr h
  ·rcases List.mem_cons.1 h with rfl|h
   ·simp
   ·exact mC _ (Yr h)
def jB{a:LP}{q:Int×Int}:q∈Gc a ↔ q∈a:=
 ⟨fun h=>(Wm a).mem_iff.1 (Ap h),fun h=>Yr ((Wm a).mem_iff.2 h)⟩
def Bb(l:LP):Prop:=l.Pairwise fun x y=>x.1<y.1
def SB:∀(l:LP),l.Pairwise (fun x y=>x.1<=y.1)->(∀x∈l,∀y∈l,x.1=y.1->x=y)->Bb (Ja l)
 | [],_,_=>List.Pairwise.nil
 | [a],_,_=>by unfold Bb;simp[Ja]
 | a::b::r,h,hu=>by
  obtain⟨f,g⟩:=List.pairwise_cons.1 h;have i:=SB (b::r) g (fun x n y d=>hu x (mC _ n) y (mC _ d));rw[Ja];split
  ·exact i
  ·rename_i hne;refine List.pairwise_cons.2 ⟨fun y d=>?_,i⟩;have c:=Ap d;have k:=f y c;have o:=f b sM;have j:b.1<=y.1:=by
    rcases List.mem_cons.1 c with rfl|c
    ·exact Int.le_refl _
    ·exact(List.pairwise_cons.1 g).1 y c
   have:a.1≠b.1:=fun e=>hne (hu a sM b sM e);omega
def JB{k:Int}{a:LP}(e:Se k a)(c:k<=1000000)(f:∀x∈a,∀y∈a,x.1=y.1->x=y):Bb (Gc a):=by
 have d:=Wm a;exact SB _ (Iu fun x b=>by
  have:=e x b;unfold BP;exact⟨this.1.mono c,this.2.mono c⟩) (fun x b y g=>f x (d.mem_iff.1 b) y (d.mem_iff.1 g))
def Bb.between{l:LP}(h:Bb l){e:Md}(d:e∈yb l):e.1∈l/\e.2∈l/\e.1.1<e.2.1/\∀q∈l,¬(e.1.1<q.1/\q.1<e.2.1):=by
 unfold yb at d;obtain⟨i,hi,rfl⟩:=List.getElem_of_mem d;have b:i+1<l.length:=by rw[List.length_zip,List.length_tail]at hi;omega
 have g:(l.zip l.tail)[i]'hi=(l[i]' oM,l[i+1]'b):=sM;rw[g];have c:=List.pairwise_iff_getElem.1 h;refine⟨List.getElem_mem _,List.getElem_mem _,c i (i+1) oM b oM,fun q n=>?_⟩;obtain⟨j,f,rfl⟩:=List.getElem_of_mem n;dsimp only;rintro ⟨o,p⟩;rcases Nat.lt_trichotomy j i with a|rfl|a
 ·have:=c j i f oM a;omega
 ·omega
 ·rcases Nat.lt_or_eq_of_le (show i+1<=j from a)with k|rfl
  ·have:=c (i+1) j b f k;omega
  ·omega
def lk{p:Pl}(h:Ea p=true):Bb (za p)/\(∀q,q∈za p ↔ Ld (Ba p) q)/\∀e∈yb (za p),si (Ba p) e.1 e.2:=by
 have c:=Zo h;have b:2<=(Ba p).length:=by have:=c.three;omega
 obtain⟨i,s,Sh⟩:=ip h;have l:=yo i (nE _);have a:∀q,q∈za p ↔ Ld (Ba p) q:=fun q=>by unfold za;rw[jB,Su b]
 have g:Bb (za p):=JB l.1 dM (fun x f y n e=>Ld.uniq c ((Su b).1 f) ((Su b).1 n) e);refine⟨g,a,fun e j=>?_⟩;obtain⟨o,r,f,d⟩:=g.between j;exact Ld.edge c ((a _).1 o) ((a _).1 r) f (fun q k=>d q ((a q).2 k))
def vk{p:Pl}(h:Ea p=true):Bb (Ra p)/\(∀q,q∈Ra p ↔ Vg (Ba p) q)/\∀e∈yb (Ra p),qk (Ba p) e.2 e.1:=by
 have c:=Zo h;have b:2<=(Ba p).length:=by have:=c.three;omega
 obtain⟨i,s,Sh⟩:=ip h;have l:=yo i (nE _);have a:∀q,q∈Ra p ↔ Vg (Ba p) q:=fun q=>by unfold Ra;rw[jB,ru b]
 have g:Bb (Ra p):=JB l.2 dM (fun x f y n e=>Vg.uniq c ((ru b).1 f) ((ru b).1 n) e);refine⟨g,a,fun e j=>?_⟩;obtain⟨o,r,f,d⟩:=g.between j;exact Vg.edge c ((a _).1 o) ((a _).1 r) f (fun q k=>d q ((a q).2 k))
def xh(k:Int):Rat:=((2*k+1:Int):Rat)/2
def qy(x y:Rat):Pb x y<=0 ↔ x<=y:=by rw[<-Int.not_lt,Nq,Rat.not_lt]
def Lv(k:Int):xh k*2=((2*k+1:Int):Rat):=by unfold xh;rw[Rat.div_mul_cancel dM]
def pD(k m:Int):xh k<=(m:Rat) ↔ k<m:=by
 have c:(0:Rat)<=2:=dM;have b:(m:Rat)*2=((m*2:Int):Rat):=by rw[Rat.intCast_mul];rfl
 constructor
 ·intro h;have:=Rat.mul_le_mul_of_nonneg_right h c;rw[Lv,b,Rat.intCast_le_intCast]at this;omega
 ·intro h;refine Rat.not_lt.1 fun a=>?_;have:=Rat.mul_le_mul_of_nonneg_right (Rat.le_of_lt a) c;rw[Lv,b,Rat.intCast_le_intCast]at this;omega
def pA(k:Int):∀(l:LP)(a:Int×Int),a.1<=k->(∃b∈l,k<b.1)->∃e∈yb (a::l),e.1.1<=k/\k<e.2.1/\(yb (a::l)).find? (Jh (xh k))=C e
 | [],a,_,⟨b,d,_⟩=>by cases d
 | b::r,a,ha,h=>by
  have e:yb (a::b::r)=(a,b)::yb (b::r):=rfl;have j:Jh (xh k) (a,b)=decide (k<b.1):=by
   unfold Jh;rw[decide_eq_decide,qy,pD]
  rw[e];by_cases d:k<b.1
  ·refine⟨(a,b),by simp,ha,d,?_⟩;rw[List.find?_cons,j,decide_eq_true d]
  ·obtain⟨n,c,i⟩:=h;have f:∃b∈r,k<b.1:=by
    rcases List.mem_cons.1 c with rfl|c
    ·exact absurd i d
    ·exact⟨n,c,i⟩
   obtain⟨o,g,p,q,s⟩:=pA k r b oM f;refine⟨o,mC _ g,p,q,?_⟩;rw[List.find?_cons,j,decide_eq_false d];exact s
def Vq{l:LP}{k:Int}(d:l≠[])(j:Ka l<=k)(c:k<Ma l):∃e∈yb l,e.1.1<=k/\k<e.2.1/\Sb l (xh k)=Ug (xh k) e:=by
 cases l with
 | nil=>exact absurd rfl d
 | cons a r =>
  have n:a.1<=k:=j;have p:∃b∈r,k<b.1:=by
   cases r with
   | nil=>unfold Ma at c;simp at c;omega
   | cons b r =>
    refine⟨(b::r).getLast sM,List.getLast_mem _,?_⟩;unfold Ma at c;rw[gD,gE sM]at c;simp only[Option.getD_some]at c;rw[List.getLast_eq_getElem];simpa using c
  obtain⟨e,o,f,g,i⟩:=pA k r a n p;refine⟨e,o,f,g,?_⟩;unfold Sb;rw[i]
end
section
def qp(p:Int×Int):Pq:=((p.1:Rat),(p.2:Rat))
def qb(J:Pq->Pq->Rat):List Md->Rat
 | []=>0
 | e::t=>J (qp e.1) (qp e.2)+qb J t
def Yy(J:Pq->Pq->Rat){l m:List Md}(h:l.Perm m):qb J l=qb J m:=by
 induction h with
 | nil=>rfl
 | cons x _ c=>show _+_=_+_;rw[c]
 | swap x y t=>show _+(_+_)=_+(_+_);grind
 | trans _ _ a b=>rw[a,b]
def Rm(a b:Int×Int)(t:LP):yb (a::b::t)=(a,b)::yb (b::t):=rfl
def Kz(J:Pq->Pq->Rat):∀l:LP,Ua J (l.map qp)=qb J (yb l)
 | []=>rfl
 | [a]=>rfl
 | a::b::t=>by
  rw[Rm];show J (qp a) (qp b)+Ua J ((b::t).map qp)=J (qp a) (qp b)+qb J (yb (b::t));rw[Kz J (b::t)]
def Ng{u v:Int×Int}:∀{l:LP},(u,v)∈yb l ↔ ∃A B,l=A++u::v::B
 | []=>⟨fun h=>by simp[yb]at h,fun⟨A,B,h⟩=>by simp at h⟩
 | [a]=>⟨fun h=>by simp[yb]at h,fun⟨A,B,h⟩=>by
  have:=congrArg List.length h;simp at this;omega⟩
 | a::b::t=>by
  rw[Rm,List.mem_cons,Ng (l:=b::t)];constructor
  ·rintro (h|⟨A,B,h⟩)
   ·cases h;exact⟨[],t,rfl⟩
   ·exact⟨a::A,B,by rw[h];rfl⟩
  ·rintro ⟨A,B,h⟩;cases A with
   | nil=>left;cases h;rfl
   | cons x A =>
    right
    rw[List.cons_append]at h;exact⟨A,B,(List.cons.inj h).2⟩
def At:∀l:LP,(yb l).map Prod.fst=l.dropLast
 | []=>rfl
 | [a]=>rfl
 | a::b::t=>by
  rw[Rm,List.map_cons,At (b::t)];rfl
def zu{l:LP}(h:l.dropLast.Nodup):(yb l).Nodup:=by rw[<-At]at h;exact List.Pairwise.of_map Prod.fst (fun a b c e=>c (by rw[e])) h
def Bx:∀l:LP,(yb l).map Prod.snd=l.tail
 | []=>rfl
 | [a]=>rfl
 | a::b::t=>by
  rw[Rm,List.map_cons,Bx (b::t)];rfl
def Kw{α β:Type}(f:α->β){l:List α}(h:(l.map f).Nodup){x y:α}(g:x∈l)(k:y∈l)(e:f x=f y):x=y:=by obtain⟨i,hi,b⟩:=List.getElem_of_mem g;obtain⟨j,d,c⟩:=List.getElem_of_mem k;have a:i=j:=(List.getElem_inj (i:=i) (j:=j) (h₀:=by rw[lL];exact hi) (h₁:=by rw[lL];exact d) h).1 (by rw[List.getElem_map,List.getElem_map,b,c,e]);subst a;rw[<-b,<-c]
def fd(cs:LP):List Md:=match cs with | []=>[]|a::t=>yb (a::t++[a])
def Pr(J:Pq->Pq->Rat)(cs:LP):Dd J (cs.map qp)=qb J (fd cs):=by
 cases cs with
 | nil=>rfl
 | cons a t =>
  show Ua J (qp a::t.map qp++[qp a])=qb J (yb (a::t++[a]));rw[<-Kz J (a::t++[a])];simp
def Wn{cs:LP}(d:2<=cs.length){u v:Int×Int}:(u,v)∈fd cs ↔ ld cs u v:=by
 cases cs with
 | nil=>simp at d
 | cons a t =>
  show (u,v)∈yb (a::t++[a]) ↔ _;rw[Ng];unfold ld;constructor
  ·rintro ⟨A,B,h⟩;rcases List.eq_nil_or_concat B with rfl|⟨B',z,rfl⟩
   ·right
    (have c:a::t++[a]=(A++[u])++[v]:=by rw[h];simp);obtain⟨b,e⟩:=List.append_inj' c rfl;cases e;cases A with
    |nil=>
     rw[List.nil_append]at b;cases b;simp at d
    | cons x A =>
     rw[List.cons_append]at b;exact⟨A,by rw[<-(List.cons.inj b).1]at b;rw[b];rfl⟩
   ·left
    (have c:a::t++[a]=(A++u::v::B')++[z]:=by rw[h];simp);exact⟨A,B',(List.append_inj' c rfl).1⟩
  ·rintro (⟨A,B,h⟩|⟨M,h⟩)
   ·exact⟨A,B++[a],by rw[h];simp⟩
   ·rw[List.cons_append]at h;obtain⟨c,b⟩:=List.cons.inj h;exact⟨a::M,[],by rw[b,c];simp⟩
def PB{cs:LP}(h:cs.Nodup):(fd cs).Nodup:=by
 cases cs with
 | nil=>exact List.nodup_nil
 | cons a t=>exact zu (by rw[List.dropLast_concat];exact h)
def MH{cs:LP}(h:cs.Nodup){u v w:Int×Int}(b:(u,v)∈fd cs)(c:(u,w)∈fd cs):v=w:=by
 cases cs with
 | nil=>cases b
 | cons a t =>
  have:=Kw Prod.fst (l:=yb (a::t++[a])) (by rw[At,List.dropLast_concat];exact h) b c rfl;cases this;rfl
def RJ{cs:LP}(h:cs.Nodup){u v w:Int×Int}(b:(u,v)∈fd cs)(c:(w,v)∈fd cs):u=w:=by
 cases cs with
 | nil=>cases b
 | cons a t =>
  have d:(t++[a]).Nodup:=(List.perm_append_comm (l₁:=[a]) (l₂:=t)).nodup_iff.1 h;have:=Kw Prod.snd (l:=yb (a::t++[a])) (by rw[Bx];exact d) b c rfl;cases this;rfl
def gu{u v:Int×Int}:∀{l:LP},Bb l->u∈l->v∈l->u.1<v.1->∃w,(u,w)∈yb l
 | [],_,h,_,_=>by cases h
 | [a],_,h,k,c=>by
  rw[List.mem_singleton.1 h,List.mem_singleton.1 k]at c;omega
 | a::b::t,hr,h,k,c=>by
  obtain⟨i,j⟩:=List.pairwise_cons.1 hr;rw[Rm];rcases List.mem_cons.1 h with rfl|d
  ·exact⟨b,by simp⟩
  ·rcases List.mem_cons.1 k with e|g
   ·have:=i u d;rw[e]at c;omega
   ·obtain⟨w,f⟩:=gu j d g c;exact⟨w,mC _ f⟩
def TA{l:LP}(h:Bb l):l.Nodup:=h.imp fun a e=>by rw[e]at a;omega
def Fh(e:Md):Bool:=decide (e.1.1<e.2.1)
def mh(e:Md):Bool:=decide (e.2.1<e.1.1)
def JF{cs L:LP}(c:Qe cs)(r:Bb L)(m:∀q,q∈L ↔ Ld cs q)(d:∀e∈yb L,si cs e.1 e.2):((fd cs).filter Fh).Perm (yb L):=by
 have b:2<=cs.length:=by have:=c.three;omega
 refine(List.perm_ext_iff_of_nodup ((PB c.nd).filter _) (zu ((TA r).sublist (List.dropLast_sublist _)))).2 fun e=>?_;obtain⟨u,v⟩:=e;rw[List.mem_filter];constructor
 ·rintro ⟨h,j⟩;have a:u.1<v.1:=of_decide_eq_true j;have g:=(Wn b).1 h;obtain⟨w,i⟩:=gu r ((m u).2 ⟨u,v,⟨g,a⟩,.inl rfl⟩) ((m v).2 ⟨u,v,⟨g,a⟩,.inr rfl⟩) a;have f:=MH c.nd h ((Wn b).2 (d _ i).1);rw[f];exact i
 ·intro h;have:=d _ h;exact⟨(Wn b).2 this.1,decide_eq_true this.2⟩
def oD{cs L:LP}(i:Qe cs)(r:Bb L)(m:∀q,q∈L ↔ Vg cs q)(d:∀e∈yb L,qk cs e.2 e.1):(((fd cs).filter mh).map Prod.swap).Perm (yb L):=by
 have f:2<=cs.length:=by have:=i.three;omega
 have n:(((fd cs).filter mh).map Prod.swap).Nodup:=by
  refine List.Pairwise.map Prod.swap (fun a b g e=>g ?_) ((PB i.nd).filter mh);have:=congrArg Prod.swap e;simpa using this
 refine(List.perm_ext_iff_of_nodup n (zu ((TA r).sublist (List.dropLast_sublist _)))).2 fun e=>?_;obtain⟨u,v⟩:=e;rw[List.mem_map];constructor
 ·rintro ⟨⟨x,y⟩,h,e⟩;cases e;obtain⟨h,o⟩:=List.mem_filter.1 h;have c:y.1<x.1:=of_decide_eq_true o;have k:=(Wn f).1 h;obtain⟨w,l⟩:=gu r ((m y).2 ⟨x,y,⟨k,c⟩,.inr rfl⟩) ((m x).2 ⟨x,y,⟨k,c⟩,.inl rfl⟩) c;have j:=RJ i.nd h ((Wn f).2 (d _ l).1);show (y,x)∈yb L;rw[j];exact l
 ·intro h;have:=d _ h;exact⟨(v,u),List.mem_filter.2 ⟨(Wn f).2 this.1,decide_eq_true this.2⟩,rfl⟩
def Vz(J:Pq->Pq->Rat)(f:∀a b:Int×Int,a.1=b.1->J (qp a) (qp b)=0):∀l:List Md,qb J l=qb J (l.filter Fh)+qb J (l.filter mh)
 | []=>by show (0:Rat)=0+0;grind
 | e::t=>by
  have j:=Vz J f t;show J (qp e.1) (qp e.2)+qb J t=_;by_cases g:e.1.1<e.2.1
  ·have d:Fh e=true:=decide_eq_true g;have c:mh e=false:=decide_eq_false oM;rw[List.filter_cons,if_pos d,List.filter_cons,if_neg (by rw[c];decide)];show _=J (qp e.1) (qp e.2)+qb J (t.filter Fh)+_;grind
  ·have d:Fh e=false:=decide_eq_false g;by_cases i:e.2.1<e.1.1
   ·have c:mh e=true:=decide_eq_true i;rw[List.filter_cons,if_neg (by rw[d];decide),List.filter_cons,if_pos c];show _=_+(J (qp e.1) (qp e.2)+qb J (t.filter mh));grind
   ·have c:mh e=false:=decide_eq_false i;rw[List.filter_cons,if_neg (by rw[d];decide),List.filter_cons,if_neg (by rw[c];decide),f e.1 e.2 oM];grind
def Ry(J:Pq->Pq->Rat)(c:∀a b,J b a = -J a b):∀l:List Md,qb J (l.map Prod.swap) = -qb J l
 | []=>by show (0:Rat) = -0;grind
 | e::t=>by
  show J (qp e.2) (qp e.1)+qb J (t.map Prod.swap) = -(J (qp e.1) (qp e.2)+qb J t);rw[Ry J c t,c (qp e.1) (qp e.2)];grind
end
section
open Go.RowKit Go.Shelf Go.Sort
def vm{cs:LP}(h:Qe cs)(u v:Int×Int):∃c∈cs,c≠u/\c≠v:=by
 apply Classical.byContradiction;intro d;have f:∀c∈cs,c∈[u,v]:=fun c b=>by
  apply Classical.byContradiction;intro a;exact d ⟨c,b,fun e=>a (by simp[e]),fun e=>a (by simp[e])⟩
 have:=List.Nodup.length_le_of_subset h.nd f;have:=h.three;simp at *;omega
def ld.ne{cs:LP}(h:Qe cs){u v:Int×Int}(f:ld cs u v):u≠v:=by
 rintro rfl;obtain⟨c,d,a,b⟩:=vm h u u;have:=h.left u u f c d a b;unfold Ce at this;have e:(u.1-u.1)*(c.2-u.2)-(u.2-u.2)*(c.1-u.1)=0:=by grind
 omega
def Qe.minLow{cs:LP}(h:Qe cs):∃u,Ld cs u/\∀c∈cs,u.1<=c.1:=by
 obtain⟨v,hv,a⟩:=CA (fun q:Int×Int=>q.1) (S:=cs) (by rintro rfl;have:=h.three;simp at this);have w:2<=cs.length:=by have:=h.three;omega
 obtain⟨s,j⟩:=ld.next hv w;by_cases o:v.1<s.1
 ·exact⟨v,⟨v,s,⟨j,o⟩,.inl rfl⟩,a⟩
 have d:=j.mem.2;have p:s.1=v.1:=by have:=a s d;omega
 obtain⟨t,k⟩:=ld.next d w;by_cases l:s.1<t.1
 ·exact⟨s,⟨s,t,⟨k,l⟩,.inl rfl⟩,fun c i=>by rw[p];exact a c i⟩
 exfalso;have f:=k.mem.2;have z:t.1=v.1:=by have:=a t f;omega
 by_cases g:t=v
 ·subst g;obtain⟨c,i,r,x⟩:=vm h t s;have b:=h.left t s j c i r x;have y:=h.left s t k c i x r;unfold Ce at b y;have e:(s.1-t.1)*(c.2-s.2)-(s.2-t.2)*(c.1-s.1)+((t.1-s.1)*(c.2-t.2)-(t.2-s.2)*(c.1-t.1))=0:=by grind
  omega
 ·have n:t≠s:=fun e=>(k.ne h) e.symm;have b:=h.left v s j t f g n;unfold Ce at b;rw[p,z,Int.sub_self]at b;simp at b
def Fl(p:Int×Int):Int×Int:=(p.1,-p.2)
def Oq(p:Int×Int):Fl (Fl p)=p:=by unfold Fl;simp
def Qe.mz{cs:LP}(h:Qe cs):Qe (cs.map Fl).reverse:=
 h.flip _ (fun u v c=>by unfold Ce Fl;dsimp only;grind) (fun x y e=>by rw[<-Oq x,e,Oq])
def Ld.mz{cs:LP}{q:Int×Int}(h:Ld (cs.map Fl).reverse q):Vg cs (Fl q):=by
 obtain⟨u,v,⟨e,d⟩,f⟩:=h;obtain⟨i,g,b,c,a⟩:=(ld.rev e).map;refine⟨i,g,⟨a,?_⟩,?_⟩
 ·rw[b,c]at d;exact d
 ·rcases f with rfl|rfl
  ·right;rw[c,Oq]
  ·left;rw[b,Oq]
def Qe.minUp{cs:LP}(h:Qe cs):∃u,Vg cs u/\∀c∈cs,u.1<=c.1:=by obtain⟨u,d,b⟩:=h.mz.minLow;refine⟨Fl u,d.mz,fun c a=>?_⟩;exact b (Fl c) (List.mem_reverse.2 (List.mem_map_of_mem a))
def Qe.maxLow{cs:LP}(h:Qe cs):∃u,Ld cs u/\∀c∈cs,c.1<=u.1:=by
 obtain⟨u,d,b⟩:=h.ng.minUp;refine⟨Mf u,?_,fun c a=>?_⟩
 ·have:=Vg.ng.1 d
  rwa [List.map_map,show Mf ∘ Mf=id from funext sj,List.map_id]at this
 ·have:=b (Mf c) (List.mem_map_of_mem a);unfold Mf at *;dsimp only at *;omega
def Qe.maxUp{cs:LP}(h:Qe cs):∃u,Vg cs u/\∀c∈cs,c.1<=u.1:=by obtain⟨u,d,b⟩:=h.ng.minLow;refine⟨Mf u,Vg.ng.2 (by rw[sj];exact d),fun c a=>?_⟩;have:=b (Mf c) (List.mem_map_of_mem a);unfold Mf at *;dsimp only at *;omega
def Bb.ends{l:LP}(h:Bb l)(c:l≠[]):(∃q∈l,q.1=Ka l)/\(∃q∈l,q.1=Ma l)/\∀q∈l,Ka l<=q.1/\q.1<=Ma l:=by
 have a:=List.length_pos_iff.2 c;have g:=List.pairwise_iff_getElem.1 h;have d:Ka l=(l[0]'a).1:=by unfold Ka;rw[gD,gE a];rfl
 have e:Ma l=(l[l.length-1]' oM).1:=by unfold Ma;rw[gD,gE oM];rfl
 refine⟨⟨_,List.getElem_mem a,d.symm⟩,⟨_,List.getElem_mem oM,e.symm⟩,fun q j=>?_⟩;obtain⟨i,hi,rfl⟩:=List.getElem_of_mem j;rw[d,e];constructor
 ·rcases Nat.eq_zero_or_pos i with rfl|b
  ·exact Int.le_refl _
  ·have:=g 0 i a hi b;omega
 ·rcases Nat.lt_or_ge i (l.length-1)with f|f
  ·have:=g i (l.length-1) hi oM f;omega
  ·have:i=l.length-1:=oM;subst this;exact Int.le_refl _
def Vg.mem{cs:LP}{q:Int×Int}(h:Vg cs q):q∈cs:=by
 obtain⟨u,v,⟨a,_⟩,rfl|rfl⟩:=h
 ·exact a.mem.1
 ·exact a.mem.2
def xk{p:Pl}(h:Ea p=true):Ka (Ra p)=Ka (za p)/\Ma (Ra p)=Ma (za p)/\Ka (za p)<Ma (za p)/\za p≠[]/\Ra p≠[]:=by
 have t:=Zo h;obtain⟨r1,k,d1⟩:=lk h;obtain⟨r2,l,d2⟩:=vk h;obtain⟨a,K,f⟩:=t.minLow;obtain⟨b,T,g⟩:=t.minUp;obtain⟨c,P,i⟩:=t.maxLow;obtain⟨d,hd,j⟩:=t.maxUp;have n1:za p≠[]:=fun e=>by have:=(k a).2 K;rw[e]at this;cases this
 have n2:Ra p≠[]:=fun e=>by have:=(l b).2 T;rw[e]at this;cases this
 obtain⟨⟨w,n,e1⟩,⟨x,o,e2⟩,s⟩:=r1.ends n1;obtain⟨⟨y,q,e3⟩,⟨z,r,e4⟩,R⟩:=r2.ends n2;have g1:=s a ((k a).2 K);have g2:=R b ((l b).2 T);have g3:=s c ((k c).2 P);have g4:=R d ((l d).2 hd);have k1:=f y ((l y).1 q).mem;have k2:=g w ((k w).1 n).mem;have k3:=i z ((l z).1 r).mem;have k4:=j x ((k x).1 o).mem;have k5:=f w ((k w).1 n).mem;have k6:=g y ((l y).1 q).mem;have k7:=i x ((k x).1 o).mem;have k8:=j z ((l z).1 r).mem;refine⟨by omega,by omega,?_,n1,n2⟩;obtain⟨u,v,⟨W,hx⟩,_⟩:=K;have hu:=s u ((k u).2 ⟨u,v,⟨W,hx⟩,.inl rfl⟩);have hv:=s v ((k v).2 ⟨u,v,⟨W,hx⟩,.inr rfl⟩);omega
end
section
open Go.RowKit Go.Shelf Go.Sort Go.Lib
def iy(a b:Int×Int):Ug (a.1:Rat) (a,b)=(a.2:Rat):=by unfold Ug;dsimp only;rw[Rat.sub_self,Rat.zero_mul,Rat.div_def,Rat.zero_mul,Rat.add_zero]
def Wz(a b:Int×Int)(h:a.1<b.1):Ug (b.1:Rat) (a,b)=(b.2:Rat):=by
 have e:((b.1-a.1:Int):Rat)≠0:=by
  intro f;have:(b.1-a.1:Int)=0:=by exact_mod_cast f
  omega
 unfold Ug;dsimp only;generalize hq:(((b.1:Int):Rat)-((a.1:Int):Rat))*((b.2-a.2:Int):Rat)/((b.1-a.1:Int):Rat)=q;have d:q*((b.1-a.1:Int):Rat)=(((b.1:Int):Rat)-((a.1:Int):Rat))*((b.2-a.2:Int):Rat):=by rw[<-hq,Rat.div_mul_cancel e]
 rw[<-Rat.intCast_sub,Rat.mul_comm]at d;have:q=((b.2-a.2:Int):Rat):=by
  have c:(q-((b.2-a.2:Int):Rat))*((b.1-a.1:Int):Rat)=0:=by grind
  rcases Rat.mul_eq_zero.1 c with c|c
  ·grind
  ·exact absurd c e
 rw[this,Rat.intCast_sub];grind
def jx(x:Rat)(a b:Int×Int)(k:((a.1:Int):Rat)<=x)(p:x<=((b.1:Int):Rat)):∀(l:LP),Bb l->(a,b)∈yb l->∃e,(yb l).find? (Jh x)=C e/\Ug x e=Ug x (a,b)
 | [],_,h=>by simp[yb]at h
 | [c],_,h=>by simp[yb]at h
 | c::d::r,hR,h=>by
  have e:yb (c::d::r)=(c,d)::yb (d::r):=rfl;have u:Jh x (c,d)=decide (x<=((d.1:Int):Rat)):=by
   unfold Jh;rw[decide_eq_decide,qy]
  obtain⟨q,f⟩:=List.pairwise_cons.1 hR;rw[e]at h ⊢;rw[List.find?_cons,u];rcases List.mem_cons.1 h with h|h
  ·cases h;rw[decide_eq_true p];exact⟨_,rfl,rfl⟩
  ·by_cases j:x<=((d.1:Int):Rat)
   ·rw[decide_eq_true j];refine⟨_,rfl,?_⟩;have i:=(Bb.between f h).1;have t:d.1<=a.1:=by
     rcases List.mem_cons.1 i with g|g
     ·dsimp only at g;rw[g];exact Int.le_refl _
     ·have:=(List.pairwise_cons.1 f).1 _ g;dsimp only at this;omega
    have s:a.1<=d.1:=by
     have:=Rat.le_trans k j;exact Rat.intCast_le_intCast.1 this
    have n:a=d:=by
     rcases List.mem_cons.1 i with g|g
     ·exact g
     ·have:=(List.pairwise_cons.1 f).1 _ g;dsimp only at this;omega
    subst n;have o:x=((a.1:Int):Rat):=Rat.le_antisymm j k;rw[o,iy,Wz _ _ (q a sM)]
   ·rw[decide_eq_false j];exact jx x a b k p (d::r) f h
def Yk{x:Rat}{l:LP}(c:Bb l){e:Md}(i:e∈yb l)(d:((e.1.1:Int):Rat)<=x)(g:x<=((e.2.1:Int):Rat)):Sb l x=Ug x e:=by obtain⟨f,a,b⟩:=jx x e.1 e.2 d g l c i;unfold Sb;rw[a];exact b
def fC(e:Md)(s t x:Rat):(t-s)*Ug x e=(t-x)*Ug s e+(x-s)*Ug t e:=by unfold Ug;simp only[Rat.div_def];grind
def YK{zs:List Int}{z:Int}(h:z∈zs):z∈compact zs:=by
 obtain⟨i,hi,rfl⟩:=List.getElem_of_mem h;have a:∀j,(hj:j<zs.length)->zs.toArray[j]! = zs[j]:=fun j hj=>by rw[getElem!_pos _ _ (by simpa using hj)];simp
 have key:∀i,(hi:i<zs.length)->∃j,j<zs.length/\keeps zs.toArray j=true/\zs.toArray[j]! = zs[i]:=by
  intro i;induction i with
  | zero=>intro hi;exact⟨0,hi,by simp[keeps],a 0 hi⟩
  | succ i e =>
   intro hi;cases hk:keeps zs.toArray (i+1)with
   | true=>exact⟨i+1,hi,hk,a _ hi⟩
   |false=>
    obtain⟨j,b,c,d⟩:=e oM;refine⟨j,b,c,?_⟩;rw[d,<-a _ hi,<-a i oM];simp[keeps]at hk;grind
 obtain⟨j,b,c,d⟩:=key i hi;unfold compact compactUpTo;refine List.mem_map.2 ⟨j,List.mem_filter.2 ⟨List.mem_range.2 b,c⟩,d⟩
def XF{s:Sp}{z:Int}(h:z=s.lo\/z=s.hi\/(s.lo<z/\z<s.hi/\∃q∈s.over++s.under,q.1=z)):(z:Rat)∈Jb s:=by
 unfold Jb Qa;refine List.mem_map_of_mem (YK (Zg.2 ?_));rcases h with rfl|rfl|⟨a,b,q,c,rfl⟩
 ·simp
 ·simp
 ·refine mC _ (mC _ ?_);unfold If;refine List.mem_filter.2 ⟨List.mem_map_of_mem c,?_⟩;unfold vo;simp[a,b]
def Vw{q:Rat}(h:0<=q.num.sign):0<=q:=by have:0<=q.num:=Int.sign_nonneg_iff.1 h;exact Rat.num_nonneg.1 this
end
section
open Go.RowKit Go.Shelf
attribute [local go_sem] Oper.semAt_some
def ZL(w:N)(s:Sp)(d e f:E)(b:Int)(a:List Rat)(o:Rat×Rat)(g:Nat)(c:E)(W:N):Prop:=
 ∃i:Nat,i<=a.length/\c=Z X i/\g=a.length-i/\Qi w s d e f a (kc (Nd s b) a o i) W
def MK{w W j b:N}{o:Obj}{p v x:Rat}{a g:Option Addr}{m c i c2:Nat}{s:Bool}(u:oa w W)(R:w.heap.size+1+1+1<=W.heap.size)(K:W.heap[w.heap.size]?=C o)(r:RB W (w.heap.size+1) v)(t:RB W (w.heap.size+1+1) x)(k:La W (Q #[O a m c,I s,O g i c2]) p)(d:((W.setCell ⟨w.heap.size+1,0,Y⟩ (O a m c)).setCell ⟨w.heap.size+1,1,Y⟩ (I s)).setCell ⟨w.heap.size+1,2,Y⟩ (O g i c2)=j)(e:((j.setCell ⟨w.heap.size+1+1,0,Y⟩ (O a m c)).setCell ⟨w.heap.size+1+1,1,Y⟩ (I s)).setCell ⟨w.heap.size+1+1,2,Y⟩ (O g i c2)=b):oa w b.drew/\w.heap.size+1+1+1<=b.drew.heap.size/\b.drew.heap[w.heap.size]?=C o/\RB b.drew (w.heap.size+1) p/\RB b.drew (w.heap.size+1+1) p:=by
 obtain⟨l,n,y,z,P,q⟩:=RB.copy2 r t oM k k d e;have f:oa b b.drew:=(eR _).drew;refine⟨(q w u oM oM).drew,nT oM f.size,f.e ?_,l.ext f,n.ext f⟩;rw[<-e,<-d]
 repeat rw[bS _ _ _ _ dO]
 exact K
def Qi.box{w:N}{s:Sp}{T v2 j:E}{k:List Rat}{o:Rat×Rat}{W:N}(h:Qi w s T v2 j k o W){a y:Option Addr}{m c P c2 b:Nat}{x:Bool}{p p0:Rat}(hb:w.heap.size+1+1+1<=b)(hv:j.ownBlock≠C b)(z:RB W b p0)(hz:La W (Q #[O a m c,I x,O y P c2]) p){g:N}(d:((W.setCell ⟨b,0,Y⟩ (O a m c)).setCell ⟨b,1,Y⟩ (I x)).setCell ⟨b,2,Y⟩ (O y P c2)=g):Qi w s T v2 j k o g/\RB g b p/\(∀b' r,b'≠b->RB W b' r->RB g b' r)/\g.heap.size=W.heap.size:=by
 obtain⟨h1,h2,h3,h4,h5,h6⟩:=h;have t:=z.not;have v:=t.set ⟨b,0,Y⟩ (O a m c);have R:=v.set ⟨b,1,Y⟩ (I x);have l:∀b' r,b'≠b->RB W b' r->RB g b' r:=fun b' r f hr=>by
  rw[<-d];exact((hr.other (Ne.symm f) t _).other (Ne.symm f) v _).other (Ne.symm f) R _
 have e:∀(V:N)(u:E)(q:Addr),q.block=b->Zc V (w.heap.size+1+1+1) j k->Wc 2 V b->Zc (V.setCell q u) (w.heap.size+1+1+1) j k:=fun V u q K ho hn=>by
  obtain⟨cs,k1,k2,k3⟩:=ho;exact⟨cs,k1.setOther (by rw[K];exact hv) _,k2,fun i c q' hc n=>La.keep (k3 i c q' hc n) (Fa.D (Fa.refl _ _) (by rw[K];exact hn) u)⟩
 refine⟨⟨?_,?_,?_,l _ _ oM h4,l _ _ oM h5,?_⟩,?_,l,?_⟩
 ·rw[<-d];exact((h1.set dO _).set dO _).set dO _
 ·rw[<-d];simpa using h2
 ·rw[<-d]
  repeat rw[bS _ _ _ _ dO]
  exact h3
 ·rw[<-d];exact e _ _ _ rfl (e _ _ _ rfl (e _ _ _ rfl h6 t) v) R
 ·rw[<-d];exact z.put hz
 ·rw[<-d];simp
def ks(q:Rat):-1<=q.num.sign/\q.num.sign<=1:=by
 rcases Int.lt_trichotomy q.num 0 with h|h|h
 ·rw[Int.sign_eq_neg_one_of_neg h];decide
 ·rw[h];decide
 ·rw[Int.sign_eq_one_of_pos h];decide
def zv(w:N)(s:Sp)(e f j:E)(d:List Rat)(o:Rat×Rat)(i:Nat)(x g:Rat)(a b c:E)(W:N):Prop:=
 ∃b11 b12,a=Z X (i:Int)/\b=Oa (C ⟨b11,0,Y⟩)/\c=Oa (C ⟨b12,0,Y⟩)/\w.heap.size+1+1+1<=b11/\b11<b12/\b12<W.heap.size/\Qi w s e f j d o W/\RB W b11 x/\RB W b12 g
def xC(w:N)(s:Sp)(f j k:E)(e:List Rat)(o:Rat×Rat)(i:Nat)(x g h:Rat)(a b c d:E)(W:N):Prop:=
 ∃b13,zv w s f j k e o i x g a b c W/\d=Oa (C ⟨b13,0,Y⟩)/\b13<W.heap.size/\RB W b13 h
def Jt{w:N}{s:Sp}{v1 v2 vq:E}{qs:List Rat}{o:Rat×Rat}{W:N}(h:Qi w s v1 v2 vq qs o W){a K e P:Option Addr}{m c T c2 n k n2 R:Nat}{s1 t:Bool}{p q x g:Rat}{b d i:Nat}(u:La W (Q #[O a m c,I s1,O K T c2]) p)(v:La W (Q #[O e n k,I t,O P n2 R]) q)(z1:w.heap.size+1+1+1<=b)(z2:b<d)(z3:d<W.heap.size)(h1:RB W b x)(h2:RB W d g){z f:N}(l:((W.setCell ⟨w.heap.size+1,0,Y⟩ (O a m c)).setCell ⟨w.heap.size+1,1,Y⟩ (I s1)).setCell ⟨w.heap.size+1,2,Y⟩ (O K T c2)=z)(r:((z.setCell ⟨w.heap.size+1+1,0,Y⟩ (O e n k)).setCell ⟨w.heap.size+1+1,1,Y⟩ (I t)).setCell ⟨w.heap.size+1+1,2,Y⟩ (O P n2 R)=f):zv w s v1 v2 vq qs (p,q) i x g (Z X (i:Int)) (Oa (C ⟨b,0,Y⟩)) (Oa (C ⟨d,0,Y⟩)) f:=by obtain⟨P1,P2,y⟩:=Qi.put2 h u v l r;have j:oa f f:=eR _;exact⟨b,d,rfl,rfl,rfl,z1,z2,Nat.lt_of_lt_of_le oM j.size,P1.ext j,(y _ _ oM h1).ext j,(y _ _ oM h2).ext j⟩
def qE{w:N}{s:Sp}{u v j:E}{q:List Rat}{o:Rat×Rat}{W:N}(h:Qi w s u v j q o W){a n:Option Addr}{m c p c2:Nat}{t:Bool}{x g r p0:Rat}{d e b i:Nat}(T:La W (Q #[O a m c,I t,O n p c2]) r)(z1:w.heap.size+1+1+1<=d)(z2:d<e)(z3:e<b)(z4:b<W.heap.size)(K:RB W d x)(P:RB W e g)(R:RB W b p0)(hv:j.ownBlock≠C b){l:N}(f:((W.setCell ⟨b,0,Y⟩ (O a m c)).setCell ⟨b,1,Y⟩ (I t)).setCell ⟨b,2,Y⟩ (O n p c2)=l):xC w s u v j q o i x g r (Z X (i:Int)) (Oa (C ⟨d,0,Y⟩)) (Oa (C ⟨e,0,Y⟩)) (Oa (C ⟨b,0,Y⟩)) l:=by obtain⟨y,z,k,P4⟩:=Qi.box h oM hv R T f;exact⟨b,⟨d,e,rfl,rfl,rfl,z1,z2,by omega,y,k _ _ oM K,k _ _ oM P⟩,rfl,by omega,z⟩
end
section
open Go.RowKit Go.Shelf
def Vp(c:Int)(a b:Int×Int):Prop:=a.1<b.1\/(a.1=b.1/\c*(a.2-b.2)<0)
instance (by':Int) (a b:Int×Int):Decidable (Vp by' a b):=by unfold Vp;infer_instance
end
section
open Go.RowKit Go.Shelf
attribute [local go_sem] Oper.semAt_some
def OH{f:Rat->Rat}{a:List Rat}{o:Rat×Rat}{i:Nat}{x:Rat}(b:a[i]?=C x):kc f a o (i+1)=if i=0 then Zb f (kc f a o i) x else ue f (Zb f (kc f a o i) x) (a.getD (i-1) 0) x:=by
 have e:a.getD i 0=x:=by rw[gD,b];rfl
 rw[show kc f a o (i+1)=if i=0 then Zb f (kc f a o i) (a.getD i 0)else ue f (Zb f (kc f a o i) (a.getD i 0)) (a.getD (i-1) 0) (a.getD i 0)from rfl,e]
def TJ(w:N)(v1 v2:E)(s:Sp)(l:Int)(h1:Aa w v1 s.over)(h2:Aa w v2 s.under)(al:Dg s)(hp:Bd 104000 l)(ak:Ud s l=false)(bW:AC (Nd s l) (Jb s)):Calls Tryz.prog 165 #[Lh s v1 v2,Z X l] w (Fj w (Jc s l)):=by
 have a0:Rb 1 (Na s).1:=Vi al _ (by unfold Na;exact(Bl (Db s) (Ol s)).1);have HT:=ia (fun(W:N)(hW:oa w W)=>Zy W v1 v2 s (h1.i hW) (h2.i hW) al);have HG:=ia (fun(W:N)(hW:oa w W)(vx:E)(x:Rat)(hx:La W vx x)(hb:Rb 1 x)=>Rv W s v1 v2 vx x (h1.i hW) (h2.i hW) al hx hb);have Hq:=ia (Vi al);have bQ:=ia al;have HS:=ia (fun(W:N)(hW:oa w W)=>js W v1 v2 s (h1.i hW) (h2.i hW) al);obtain⟨a1,m1,rfl⟩:=h1.form;obtain⟨a2,m2,rfl⟩:=h2.form;obtain⟨n1,f1⟩:=gX s.over.length;obtain⟨n2,f2⟩:=gX s.under.length;obtain⟨lo,bp⟩:=gX s.lo;obtain⟨hi,bo⟩:=gX s.hi;have ce:=ia (show Rb 23 (Na s).2 by obtain⟨j1,j2⟩:=Bl (Db s) (Ol s);unfold Na;rw[j2];exact Rb.gap (Vi al _ j1) al);have Hp:=ia hp;have bY:-9223372036854775808<=l:=by unfold Bd at hp;omega
 have bZ:l<=9223372036854775807:=by unfold Bd at hp;omega
 have HC:=ia (fun(W:N)(va vb:E)(ha:La W va (Na s).2)(hb:La W vb (l:Rat))=>Mi W va vb _ _ ha hb (od ce.o oM) (od (Zs (k:=1) Hp.o oM) oM));have hR:Jc s l=C (kc (Nd s l) (Jb s) ((Na s).1,(Na s).1) (Jb s).length):=by unfold Jc;rw[if_neg (by simp[ak])]
 rw[hR];unfold Ud at ak;obtain⟨q1,bw⟩:=gX ((Na s).1);obtain⟨q2,b0⟩:=gX ((Na s).2);have cV:=ia bw;unfold Lh at HS HT HG ⊢;rw[b0]at ak HC ce;rw[bw,b0]at HS;rw[bw]at a0 ⊢;have bH:=ia a0;clear a0;obtain⟨qs,cw⟩:=gX (Jb s);rw[cw]at HT Hq bW ⊢;have cT:=ia bW;clear bW;obtain⟨R,hR⟩:=gX (Fj w (C (kc (Nd s l) qs (q1,q1) qs.length)));rw[hR];have HR:=ia hR;simp only[f1,f2,bp,bo]at HS HT HG ⊢;clear h1 h2 al f1 f2 hR bw b0 hp cw;go_in;go_wp2_with(((go_at_call 83;refine cM (HS.o _ eA) ?_;rintro e w1 ⟨r1,r2,rfl,cx,au,ae⟩;obtain⟨a4,m4,c4,s4,b4,n4,k4,rfl⟩:=cx.form;obtain⟨a5,m5,c5,s5,b5,n5,k5,rfl⟩:=au.form;obtain⟨⟨c2,db⟩,dG,dH,dI⟩:=oc w ae)));have K0:=ae.e ((((eR _).alloc _).alloc _).e (aN w (D #[O a1 n1 m1,O a2 n2 m2,Z X lo,Z X hi] 157)));obtain⟨W8,aj⟩:=gX (((w1.alloc (D #[O a4 m4 c4,I s4,O b4 n4 k4] 43)).alloc (D #[O a5 m5 c5,I s5,O b5 n5 k5] 43)));have ar:oa w1 W8:=by rw[<-aj];exact((eR _).alloc _).alloc _
 have co:oa w W8:=(((((eR w).alloc _).alloc _).alloc _).trans ae).trans ar;have g1:RB W8 w1.heap.size q1:=by rw[<-aj];exact(RB.new cx rfl).ext ((eR _).alloc _)
 have g2:RB W8 (w1.heap.size+1) q2:=by rw[<-aj];exact RB.new (au.ext ((eR _).alloc _)) sM
 have g3:RB W8 (w.heap.size+1) 0:=(((RB.new (La.zero _) sM).ext ((eR _).alloc _)).ext ae).ext ar;have g4:RB W8 (w.heap.size+1+1) 0:=((RB.new (La.zero _) sM).ext ae).ext ar;have zW:w1.heap.size+1<W8.heap.size:=by rw[<-aj];simp
 have cX:=ja (show W8.heap[w1.heap.size+1]?=C (D #[O a5 m5 c5,I s5,O b5 n5 k5] 43 (0,0)) by rw[<-aj];exact Kc _ _ _ sM) 0 (O a5 m5 c5);have cY:=ja (show W8.heap[w1.heap.size+1]?=C (D #[O a5 m5 c5,I s5,O b5 n5 k5] 43 (0,0)) by rw[<-aj];exact Kc _ _ _ sM) 1 (I s5);have cZ:=ja (show W8.heap[w1.heap.size+1]?=C (D #[O a5 m5 c5,I s5,O b5 n5 k5] 43 (0,0)) by rw[<-aj];exact Kc _ _ _ sM) 2 (O b5 n5 k5);have HX:=ia ar;have cS:=ia co;rw[aj];obtain⟨s1,cz⟩:=gX w1.heap.size;simp only[cz]at *;clear aj c2 db ae ar co HS cz;have K8:=HX.o.e K0;clear K0;obtain⟨k,hk⟩:=gX q2.num.sign;have cP:=ia (fun(W:N)(v:E)(h:La W v q2)=>hk▸Xl W v q2 h);rw[hk]at ak;clear hk;have hneg:¬k<0:=fun h=>by simp[h]at ak
 have hd:decide (k<0)=false:=by simp[hneg]
 rw[hd,Bool.false_or]at ak;obtain⟨c,hc⟩:=gX (Pb q2 (l:Rat));rw[hc]at ak HC;clear hc;have c1:¬0<c:=by simpa using ak
 refine Ke [(⟨s1+1,0,Y⟩,O a5 m5 c5),(⟨s1+1,1,Y⟩,I s5),(⟨s1+1,2,Y⟩,O b5 n5 k5)] cA fun g=>?_;have E0:oa w1 W8.drew:=HX.o.trans (eR W8).drew;refine Ac (i:=0) ?_;refine Ec (i:=1) (cP.o _ _ (au.ext E0)) ?_;rintro e w3 ⟨rfl,u⟩;refine⟨_,rfl,(cE g u),fun g=>?_⟩;refine sN 2 ?_
 iterate 4 refine Fc ?_
 refine oN ?_;refine Ec (i:=6) (vi _ l bY bZ) ?_;rintro e w4 ⟨r4,rfl,am,af⟩;obtain⟨a6,m6,c6,s6,b6,n6,k6,rfl⟩:=am.form;refine⟨_,rfl,(cE g af),fun g=>?_⟩;refine Ec (i:=7) (HC.o _ _ _ (au.ext (E0.trans (u.trans af))) am) ?_;rintro e w5 ⟨rfl,ag⟩;refine⟨_,rfl,(cE g ag),fun g=>?_⟩;refine sN 8 ?_
 iterate 2 refine Fc ?_
 refine oN ?_;refine Wd ?_;have X3:oa W8 w5:=((eR W8).drew).trans (u.trans (af.trans ag));have j1:=g1.ext X3;have j3:=g3.ext X3;have j4:=g4.ext X3;have K5:=X3.e K8;have zX:=X3.size;have X0:=cS.o.trans X3;clear g K8 g1 g2 g3 g4 cX cY cZ u af ag am E0 hd hneg c1 ak;have cc:=ia K5;have cR:=ia X0;go_wp2;obtain⟨pa,pm,P,ps,z,aa,T,p0,p1,p2,_,_,_,pz,hp⟩:=j1.rd;obtain⟨_,_,_,_,_,_,_,x0,x1,x2,ay,az,aA,xz,_⟩:=j3.rd;obtain⟨_,_,_,_,_,_,_,y0,y1,y2,aB,aC,aD,yz,_⟩:=j4.rd;refine Ke [(⟨s1,0,Y⟩,O pa pm P),(⟨s1,1,Y⟩,I ps),(⟨s1,2,Y⟩,O z aa T)] cA fun g=>?_;refine sN 0 ?_
 iterate 2 refine Fc ?_
 refine oN ?_;have bV:∀b,b<s1->∀q∈[((⟨s1,0,Y⟩:Addr),Value.slice pa pm P),(⟨s1,1,Y⟩,I ps),(⟨s1,2,Y⟩,O z aa T)],b≠q.1.block:=by
  intro b hb;simp;omega
 refine Je (i:=2) fun K p=>?_;go_simp;refine kO p (Ca.set3d g (bV _ oM) _ _ _) (fun g=>?_);clear p K;refine Je (i:=3) fun K p=>?_;go_simp;refine kO p (Ca.set3d g (bV _ oM) _ _ _) (fun g=>?_);clear p K;refine Wd ?_;obtain⟨W9,ab⟩:=gX ((((((((w5.setCell ⟨w.heap.size+1,0,Y⟩ (O pa pm P)).setCell ⟨w.heap.size+1,1,Y⟩ (I ps)).setCell ⟨w.heap.size+1,2,Y⟩ (O z aa T)).setCell ⟨w.heap.size+1+1,0,Y⟩ (O pa pm P)).setCell ⟨w.heap.size+1+1,1,Y⟩ (I ps)).setCell ⟨w.heap.size+1+1,2,Y⟩ (O z aa T))).drew);have cn:oa w W9/\w.heap.size+1+1+1<=W9.heap.size/\W9.heap[w.heap.size]?=C (D #[O a1 n1 m1,O a2 n2 m2,Z X lo,Z X hi] 157 (0,0))/\RB W9 (w.heap.size+1) q1/\RB W9 (w.heap.size+1+1) q1:=by
  rw[<-ab];exact MK cR.o oM cc.o j3 j4 hp rfl rfl
 have H9:=ia cn;obtain⟨X9,z9,K9,-,-⟩:=cn;have bz:=ja K9 0 (O a1 n1 m1);have bA:=ja K9 1 (O a2 n2 m2);have bB:=ja K9 2 (Z X lo);have bC:=ja K9 3 (Z X hi);rw[ab];clear ab g bV p0 p1 p2 x0 x1 x2 ay az aA y0 y1 y2 aB aC aD hp j1 j3 j4 K5 zX X0 X3 cc K9;go_wp2_with(((go_at_call 87;refine cM (HT.o _ X9) ?_;rintro e w6 ⟨vq,rfl,aH,t⟩;obtain⟨a7,c7,rfl⟩:=aH.rs.form)));obtain⟨n,hn⟩:=gX qs.length;have bt:=aH.rs.le;unfold maxLen at bt;rw[hn]at bt aH HR ⊢;have ek:n<=9223372036854775807:=oM;have Hn:=ia hn;clear hn;go_loopg [38] n (ZL w s (O a1 n1 m1) (O a2 n2 m2) (O a7 n c7) l qs (q1,q1))
 case atStart =>
  obtain⟨h1,h2,h3,h4,h5⟩:=H9.o;have el:=t.size;exact⟨0,by omega,rfl,by rw[Hn.o];rfl,h1.trans t,by omega,by rw[bp,bo];exact t.e h3,h4.ext t,h5.ext t,by
   obtain⟨cs,e1,e2,e3⟩:=aH;exact⟨cs,e1.mono oM,e2,e3⟩⟩
 case round =>
  obtain⟨i,dh,rfl,rfl,hI⟩:=hrel;rw[Hn.o]at dh;by_cases dj:i<n
  ·obtain⟨y1,y2,y3,y4,y5,y6⟩:=hI;have HI:=ia (show Qi w s (O a1 n1 m1) (O a2 n2 m2) (O a7 n c7) qs (kc (Nd s l) qs (q1,q1) i) wr from⟨y1,y2,y3,y4,y5,y6⟩);obtain⟨x,hx⟩:∃x,qs[i]?=C x:=⟨qs[i]'(by rw[Hn.o];exact dj),gE _⟩;have aK:=ia (Hq.o x (lM hx));have Hx:=ia hx;obtain⟨b7,o7,xa,xm,xc,xs,dn,dq,dp,rfl,c0,cD,dr,ds,dt⟩:=y6.rs.at' hx;rw[bp,bo]at y3;have bz:=ja y3 0 (O a1 n1 m1);have bA:=ja y3 1 (O a2 n2 m2);have bB:=ja y3 2 (Z X lo);have bC:=ja y3 3 (Z X hi);have zz:w.heap.size<wr.heap.size:=oM;have Y1:=ia y1;have ch:=ia cD;have aJ:=ia (show Rb Yb (Db s x)/\Rb Yb (l:Rat)from⟨od (Rb.gap aK.o bQ.o) oM,od (Zs (k:=1) Hp.o oM) oM⟩);have cU:=ia (show (Db s x-(l:Rat))=Nd s l x from rfl);clear y1 y3 y4 y5 y6 H9 aH bt hx cD;obtain⟨kg,aZ⟩:=gX ((Nd s l x).num.sign);have cd:=ia (fun(W:N)(v:E)(h:La W v (Nd s l x))=>aZ▸Xl W v _ h);have di:=ks (Nd s l x);rw[aZ]at di;obtain⟨oi,bX⟩:=gX (kc (Nd s l) qs (q1,q1) i);have hN:=OH (f:=Nd s l) (o:=(q1,q1)) Hx.o;rw[bX]at hN HI;obtain⟨o1,bu⟩:=gX (Zb (Nd s l) oi x);rw[bu]at hN;have HN:=ia hN;have bx:=bu.symm;unfold Zb at bx;rw[aZ]at bx;have bj:=ia (show Rb 300 oi.1/\Rb 300 oi.2 by rw[<-bX];exact Rb.reach_n ⟨bH.o.up dM,bH.o.up dM⟩ Hq.o (fun q hq=>Rb.pin_g (Hq.o q hq) bQ.o Hp.o) i (by rw[Hn.o];omega));have bk:=ia bx;have dy:=ia (show Rb 300 o1.1/\Rb 300 o1.2 by rw[<-bu];unfold Zb;split;exact Rb.wid bj.o (aK.o.up dM);exact bj.o);have cf:=ia aZ;clear aZ bX bx bu hN;have bO:=ia (show ∀q∈[oi.1,x],Rb Yb q from fun q hq=>by rcases List.mem_cons.1 hq with rfl|hq;exact od bj.o.1 oM;rw[List.mem_singleton.1 hq];exact od aK.o oM);have bP:=ia (show ∀q∈[oi.2,x],Rb Yb q from fun q hq=>by rcases List.mem_cons.1 hq with rfl|hq;exact od bj.o.2 oM;rw[List.mem_singleton.1 hq];exact od aK.o oM);go_upto_if 51 with (first|(go_at_call 157;refine cM (HG.o _ ?_ (Q #[O xa xm xc,I xs,O dn dq dp]) x ?_ aK.o) ?_;(refine Y1.o.trans ?_;exact eA);(refine ch.o.ext ?_;exact eA);rintro e w2 ⟨r2,rfl,au,ba⟩;obtain⟨dP,er,d4,eJ,dW,ey,en,rfl⟩:=au.form;obtain⟨⟨c3,dc⟩,dJ⟩:=Jf w ba)|(go_at_call 44;(with_reducible refine(vi _ l bY bZ).mono ?_);rintro e w3 ⟨r3,rfl,b1,u⟩;obtain⟨dQ,et,d5,eK,dY,eB,eo,rfl⟩:=b1.form;obtain⟨⟨c8,dd⟩,dK⟩:=Jf w u)|(go_at_call 52;(with_reducible refine(Ak _ _ _ (Db s x) (l:Rat) (au.ext u) b1 aJ.o.1 aJ.o.2).mono ?_);rintro e w4 ⟨r4,rfl,am,af⟩;rw[cU.o]at am;obtain⟨dR,eu,d6,eL,dZ,eC,ep,rfl⟩:=am.form;obtain⟨⟨c9,de⟩,dL⟩:=Jf w af)|(go_at_call 20;refine cM (cd.o _ _ (am.ext eA)) ?_;rintro e w5 ⟨rfl,ag⟩;obtain⟨⟨da,dg⟩,dN⟩:=Jf w ag));have ac:RB w5 wr.heap.size x:=(((((RB.new ch.o rfl).ext ba).ext u).ext af).ext ((eR _).alloc _)).ext ag;have ad:RB w5 w4.heap.size (Nd s l x):=(RB.new am rfl).ext ag;have X5:oa wr w5:=(((((((eR wr).alloc _).trans ba).trans u).trans af).alloc _).trans ag);have G:=HI.o.ext X5;obtain⟨aF,aY⟩:=gX w4.heap.size;obtain⟨an,aX⟩:=gX wr.heap.size;rw[aY]at ad;rw[aX]at ac;have dk:w.heap.size+1+1+1<=an/\an<aF/\aF<w5.heap.size:=by
    have q1:=ba.size;have q2:=u.size;have q3:=af.size;have q4:=ag.size;simp only[wZ]at q1 q4;have q5:=HI.o.2.1;omega
   obtain⟨z1,z2,z3⟩:=dk;simp only[aX,aY];clear ba u af ag au b1 am aX aY c3 dc c8 dd c9 de da dg dr ds dt c0 bz bA bB bC zz;go_cut [10,11,12] (zv w s (O a1 n1 m1) (O a2 n2 m2) (O (C ⟨b7,o7,Y⟩) n c7) qs o1 i x (Nd s l x))
   case first =>
    by_cases hk:kg<=0
    ·go_wp2;obtain⟨pa,pm,P,ps,z,aa,T,p0,p1,p2,bD,bE,bF,pz,bv⟩:=(G.2.2.2.1).rd;obtain⟨ea,em,ec,es,ao,aq,ap,e0,e1,e2,bl,bm,bn,ez,bq⟩:=(G.2.2.2.2.1).rd;obtain⟨ua,um,uc,us,b3,ca,b9,u0,u1,u2,eP,eQ,eU,uz,cB⟩:=(ac).rd;have ai:=ia G;have bL:=ia (ac);have ah:=ia ad;have bT:=ia bv;have bN:=ia bq;have aE:=ia cB;clear G ac ad bv bq cB;have D0:oa w5 w5.drew:=(eR _).drew;refine tp (fun i=>decide (7<i)) (Ca [(⟨w.heap.size+1,0,Y⟩,O pa pm P),(⟨w.heap.size+1,1,Y⟩,I ps),(⟨w.heap.size+1,2,Y⟩,O z aa T),(⟨w.heap.size+1+1,0,Y⟩,O ea em ec),(⟨w.heap.size+1+1,1,Y⟩,I es),(⟨w.heap.size+1+1,2,Y⟩,O ao aq ap),(⟨an,0,Y⟩,O ua um uc),(⟨an,1,Y⟩,I us),(⟨an,2,Y⟩,O b3 ca b9)]) kM ?_ (fun g=>?_)
     ·exact cA
     refine sN 0 ?_
     (iterate 2 refine so ?_);refine oN ?_;refine sN 4 ?_
     (iterate 2 refine so ?_);refine oN ?_;refine Dj (i:=2) (j:=6) (fun K p=>?h1k1w1) (fun K p=>?h2k1w1)
     case h1k1w1 =>
      go_simp;refine kO p (fun _=>cE g ((eR _).alloc _)) (fun g=>?_);clear p K;have g:=g rfl;refine Dj (i:=3) (j:=6) (fun K p=>?h1k2w1) (fun K p=>?h2k2w1)
      case h1k2w1 =>
       go_simp;(with_reducible refine cM (Ro _ _ [oi.1,x] ((Zk w5 rfl bT.o aE.o).i (eR _).drew) bO.o) ?_);rintro e w6 ⟨r6,rfl,av,t⟩;obtain⟨aL,bd,aQ,bh,aO,bf,bb,rfl⟩:=av.form;go_wp2;refine kO p (fun _=>cE g t) (fun g=>?_);clear p K;have g:=g rfl;have D6:oa w5 w6:=(((eR w5).alloc _).drew).trans t;refine Ah (i:=6) fun K p=>?_;go_simp;refine kO p (fun _=>cE g ((eR _).alloc _)) (fun g=>?_);clear p K;have g:=g rfl;refine Th (i:=7) (So _ _ [oi.2,x] (Zk w6 rfl (bN.o.ext D6) (aE.o.ext D6)) bP.o) ?_;rintro e w7 ⟨r7,rfl,aw,r⟩;obtain⟨aM,be,aR,bi,aP,bg,bc,rfl⟩:=aw.form;refine⟨_,rfl,(cE g r),fun g=>?_⟩;obtain⟨_,_,_,_,_,_,_,x0,x1,x2,ay,az,aA,xz,_⟩:=((ai.o.ext ((D6.alloc _).trans r)).2.2.2.1).rd;obtain⟨_,_,_,_,_,_,_,y0,y1,y2,aB,aC,aD,yz,_⟩:=((ai.o.ext ((D6.alloc _).trans r)).2.2.2.2.1).rd;refine Ah (i:=8) fun K p=>?_;go_simp;refine kO p (fun h=>nomatch h) (fun g=>?_);clear p K;refine Ah (i:=9) fun K p=>?_;go_simp;refine kO p (fun h=>nomatch h) (fun g=>?_);clear p K;refine Le kM ?_ _;have H9:=Jt (i:=i) (ai.o.ext ((D6.alloc _).trans r)) ((av.ext ((eR _).alloc _)).ext r) aw z1 z2 (Nat.lt_of_lt_of_le z3 ((D6.alloc _).trans r).size) (bL.o.ext ((D6.alloc _).trans r)) (ah.o.ext ((D6.alloc _).trans r)) rfl rfl;obtain⟨W9,ab⟩:=gX (((((((w7.setCell ⟨w.heap.size+1,0,Y⟩ (O aL bd aQ)).setCell ⟨w.heap.size+1,1,Y⟩ (I bh)).setCell ⟨w.heap.size+1,2,Y⟩ (O aO bf bb)).setCell ⟨w.heap.size+1+1,0,Y⟩ (O aM be aR)).setCell ⟨w.heap.size+1+1,1,Y⟩ (I bi)).setCell ⟨w.heap.size+1+1,2,Y⟩ (O aP bg bc)));rw[ab]at H9 ⊢;have H9:=ia H9;clear ab x0 x1 x2 ay az aA y0 y1 y2 aB aC aD g;go_wp2;go_meet;rw[bk.o,if_pos hk];exact H9.o
      case h2k2w1 =>
       go_simp;refine kO p (fun _=>cE g ((eR _).alloc _)) (fun g=>?_);clear p K;have g:=g rfl;refine Th (i:=3) (Ro _ _ [oi.1,x] ((Zk w5 rfl bT.o aE.o).i ((eR _).alloc _).drew) bO.o) ?_;rintro e w6 ⟨r6,rfl,av,t⟩;obtain⟨aL,bd,aQ,bh,aO,bf,bb,rfl⟩:=av.form;refine⟨_,rfl,(cE g t),fun g=>?_⟩;have D6:oa w5 w6:=((((eR w5).alloc _).alloc _).drew).trans t;have R2:=(((Zk _ (b:=w5.heap.size+1) sM (bN.o.ext ((eR w5).alloc (D #[O pa pm P,I ps,O z aa T,O ua um uc,I us,O b3 ca b9] 43))) (aE.o.ext ((eR w5).alloc _))).i (eR _).drew).i t);refine Th (i:=7) (So _ _ [oi.2,x] R2 bP.o) ?_;rintro e w7 ⟨r7,rfl,aw,r⟩;obtain⟨aM,be,aR,bi,aP,bg,bc,rfl⟩:=aw.form;refine⟨_,rfl,(cE g r),fun g=>?_⟩;obtain⟨_,_,_,_,_,_,_,x0,x1,x2,ay,az,aA,xz,_⟩:=((ai.o.ext (D6.trans r)).2.2.2.1).rd;obtain⟨_,_,_,_,_,_,_,y0,y1,y2,aB,aC,aD,yz,_⟩:=((ai.o.ext (D6.trans r)).2.2.2.2.1).rd;refine Ah (i:=8) fun K p=>?_;go_simp;refine kO p (fun h=>nomatch h) (fun g=>?_);clear p K;refine Ah (i:=9) fun K p=>?_;go_simp;refine kO p (fun h=>nomatch h) (fun g=>?_);clear p K;refine Le kM ?_ _;have H9:=Jt (i:=i) (ai.o.ext (D6.trans r)) (av.ext r) aw z1 z2 (Nat.lt_of_lt_of_le z3 (D6.trans r).size) (bL.o.ext (D6.trans r)) (ah.o.ext (D6.trans r)) rfl rfl;obtain⟨W9,ab⟩:=gX (((((((w7.setCell ⟨w.heap.size+1,0,Y⟩ (O aL bd aQ)).setCell ⟨w.heap.size+1,1,Y⟩ (I bh)).setCell ⟨w.heap.size+1,2,Y⟩ (O aO bf bb)).setCell ⟨w.heap.size+1+1,0,Y⟩ (O aM be aR)).setCell ⟨w.heap.size+1+1,1,Y⟩ (I bi)).setCell ⟨w.heap.size+1+1,2,Y⟩ (O aP bg bc)));rw[ab]at H9 ⊢;have H9:=ia H9;clear ab x0 x1 x2 ay az aA y0 y1 y2 aB aC aD g;go_wp2;go_meet;rw[bk.o,if_pos hk];exact H9.o
     case h2k1w1 =>
      go_simp;refine kO p (fun _=>cE g ((eR _).alloc _)) (fun g=>?_);clear p K;have g:=g rfl;refine Ah (i:=2) fun K p=>?_;go_simp;refine kO p (fun _=>cE g ((eR _).alloc _)) (fun g=>?_);clear p K;have g:=g rfl;have R1:=((Zk _ (b:=w5.heap.size+1) sM (bT.o.ext ((eR w5).alloc (D #[O ea em ec,I es,O ao aq ap,O ua um uc,I us,O b3 ca b9] 43))) (aE.o.ext ((eR w5).alloc _))).i (eR _).drew);refine Th (i:=3) (Ro _ _ [oi.1,x] R1 bO.o) ?_;rintro e w6 ⟨r6,rfl,av,t⟩;obtain⟨aL,bd,aQ,bh,aO,bf,bb,rfl⟩:=av.form;refine⟨_,rfl,(cE g t),fun g=>?_⟩;have D6:oa w5 w6:=((((eR w5).alloc _).alloc _).drew).trans t;refine Th (i:=7) (So _ _ [oi.2,x] (((Zk w5 rfl bN.o aE.o).i ((eR _).alloc _).drew).i t) bP.o) ?_;rintro e w7 ⟨r7,rfl,aw,r⟩;obtain⟨aM,be,aR,bi,aP,bg,bc,rfl⟩:=aw.form;refine⟨_,rfl,(cE g r),fun g=>?_⟩;obtain⟨_,_,_,_,_,_,_,x0,x1,x2,ay,az,aA,xz,_⟩:=((ai.o.ext (D6.trans r)).2.2.2.1).rd;obtain⟨_,_,_,_,_,_,_,y0,y1,y2,aB,aC,aD,yz,_⟩:=((ai.o.ext (D6.trans r)).2.2.2.2.1).rd;refine Ah (i:=8) fun K p=>?_;go_simp;refine kO p (fun h=>nomatch h) (fun g=>?_);clear p K;refine Ah (i:=9) fun K p=>?_;go_simp;refine kO p (fun h=>nomatch h) (fun g=>?_);clear p K;refine Le kM ?_ _;have H9:=Jt (i:=i) (ai.o.ext (D6.trans r)) (av.ext r) aw z1 z2 (Nat.lt_of_lt_of_le z3 (D6.trans r).size) (bL.o.ext (D6.trans r)) (ah.o.ext (D6.trans r)) rfl rfl;obtain⟨W9,ab⟩:=gX (((((((w7.setCell ⟨w.heap.size+1,0,Y⟩ (O aL bd aQ)).setCell ⟨w.heap.size+1,1,Y⟩ (I bh)).setCell ⟨w.heap.size+1,2,Y⟩ (O aO bf bb)).setCell ⟨w.heap.size+1+1,0,Y⟩ (O aM be aR)).setCell ⟨w.heap.size+1+1,1,Y⟩ (I bi)).setCell ⟨w.heap.size+1+1,2,Y⟩ (O aP bg bc)));rw[ab]at H9 ⊢;have H9:=ia H9;clear ab x0 x1 x2 ay az aA y0 y1 y2 aB aC aD g;go_wp2;go_meet;rw[bk.o,if_pos hk];exact H9.o
    ·go_wp2;go_meet;rw[bk.o,if_neg oM];exact⟨an,aF,rfl,rfl,rfl,z1,z2,z3,G,ac,ad⟩
   case rest =>
    clear ac ad G X5 z1 z2 z3 an aF;obtain⟨an,aF,rfl,rfl,rfl,z1,z2,z3,G,ac,ad⟩:=hcut;by_cases cr:i=0
    ·subst cr;go_wp2;go_roundg (n-(0+1))
     case measure=>have:=Hn.o;omega
     case rel=>exact⟨1,by rw[Hn.o];omega,by go_num,by rw[Hn.o],by have e:kc (Nd s l) qs (q1,q1) 1=o1:=HN.o.trans (if_pos trivial);rw[e];exact G⟩
    ·(have ee:((i:Int)==0)=false:=by simpa using cr);go_upto_region 13 with fail;obtain⟨j,rfl⟩:∃j,i=j+1:=⟨i-1,by omega⟩;obtain⟨y,hy⟩:∃y,qs[j]?=C y:=⟨qs[j]'(by rw[Hn.o];omega),gE _⟩;have ci:=ia (Hq.o y (lM hy));have Hy:=ia hy;have bM:=ia (show Rb Yb (Db s y)from od (Rb.gap ci.o bQ.o) oM);obtain⟨b8,o8,ya,ym,yc,ys,cH,cJ,cI,h8,ed,cF,du,dw,dx⟩:=G.2.2.2.2.2.rs.at' hy;cases h8;have aG:=G.2.2.1;rw[bp,bo]at aG;have bz:=ja aG 0 (O a1 n1 m1);have bA:=ja aG 1 (O a2 n2 m2);have bB:=ja aG 2 (Z X lo);have bC:=ja aG 3 (Z X hi);have Yc:=ia (G.1);have cW:=ia cF;have cb:=ia G;have bG:=ia ac;have ah:=ia ad;have eg:wrap64 (((j+1:Nat):Int)-1)=(j:Int):=by
      rw[IntWalk.wrap64_in _ oM];omega
     have ef:IntKind.i64.wrap ((j:Nat):Int)=(j:Int):=iW _ ⟨by omega,by omega⟩;have eV:(0:Int)<=(j:Int):=oM;have eW:(j:Int)<(n:Int):=oM;have eY:j<n:=oM;clear G ac ad aG cF hy;go_cut [10,11,12,13] (xC w s (O a1 n1 m1) (O a2 n2 m2) (O (C ⟨b7,o7,Y⟩) n c7) qs o1 (j+1) x (Nd s l x) (Nd s l y))
     case first =>
      (have C9:Ca [(⟨w.heap.size,0,Y⟩,O a1 n1 m1),(⟨w.heap.size,1,Y⟩,O a2 n2 m2),(⟨w.heap.size,2,Y⟩,Z X lo),(⟨w.heap.size,3,Y⟩,Z X hi),(⟨b7,o7+j*3,Y⟩,O ya ym yc),(⟨b7,o7+j*3+1,Y⟩,I ys),(⟨b7,o7+j*3+2,Y⟩,O cH cJ cI)] wc.drew:=by refine⟨?_,?_,?_,?_,?_,?_,?_,trivial⟩<;>go_simp);refine Cs [(10,13,D #[O Y 0 0,I false,O Y 0 0] 43 (0,0))] _ 11 8 (fun i=>decide (10<i)) (fun _=>false) kM kM kM sM kM (by intro x hx;simp only[List.mem_cons,List.not_mem_nil,or_false]at hx;rcases hx with rfl<;>exact⟨_,rfl,rfl,fun a W=>by go_simp⟩) (fun _ _ d _ _ h=>by cases d<;>exact h) C9 (fun g=>?_);refine pg (i:=0) ?_;refine pg (i:=1) ?_;refine pg (i:=2) ?_;refine pg (i:=3) ?_;refine pg (i:=4) ?_;refine pg (i:=5) ?_;refine pg (i:=7) ?_;have cN:=ia (fun(W:N)(hW:oa wc W)=>HG.o W (Yc.o.trans hW) (Q #[O ya ym yc,I ys,O cH cJ cI]) y (cW.o.ext hW) ci.o);refine li (i:=6) fun W6 cp aW aS K p=>?_;go_simp;refine cM (cN.o W6 ((eR wc).drew.trans aW)) ?_;rintro e w6 ⟨eG,rfl,a3,t⟩;obtain⟨dS,ev,d7,eM,d0,eD,dC,rfl⟩:=a3.form;go_wp2;refine kO p (.of aW t) (fun _ _=>?_);clear p K aS;refine li (i:=8) fun W8 bI bJ aS K p=>?_;go_simp;(with_reducible refine cM (vi W8 l bY bZ) ?_);rintro e w8 ⟨eH,rfl,a8,b2⟩;obtain⟨dU,ew,d8,eN,d1,eE,dD,rfl⟩:=a8.form;go_wp2;refine kO p (.of bJ b2) (fun _ _=>?_);clear p K aS;refine li (i:=9) fun W9 aU bK aS K p=>?_;go_simp;(with_reducible refine cM (Ak W9 _ _ (Db s y) (l:Rat) (a3.ext (bI.trans (b2.trans aU))) (a8.ext aU) bM.o aJ.o.2) ?_);rintro e w9 ⟨eI,rfl,a9,cC⟩;obtain⟨dV,ex,d9,eO,d2,eF,dE,rfl⟩:=a9.form;go_wp2;refine kO p (.of bK cC) (fun _ _=>?_);clear p K aS;refine df kM (fun cj aT aV=>?_);intro ax aI cG _ _;have X9:oa wc cj:=(eR wc).drew.trans aV;have cy:=a9.ext aT;have cm:RB cj ax 0:=⟨_,_,_,_,_,_,_,aI,La.zero _⟩;(have dF:wc.heap.size<=ax:=by simpa using cG);have cK:=jc aI;have cq:aF<ax:=oM;have q0:=ja aI 0 (O Y 0 0);have dl:=ja aI 1 (I false);have dm:=ja aI 2 (O Y 0 0);have qf:=Vb aI;clear cp t bI b2 aU cC aT a3 a8 a9 aW bJ bK;refine Je (i:=11) fun K p=>?_;go_simp;refine kO p (cE g (by(repeat refine oa.set ?_ (by exact cG) _);exact aV)) (fun eb=>?_);clear p K;refine Wd ?_;have H9:=qE (i:=j+1) (cb.o.ext X9) cy z1 z2 cq cK (bG.o.ext X9) (ah.o.ext X9) cm (by simp only[Value.ownBlock,ne_eq,Option.some.injEq];omega) rfl;have H9:=ia H9;clear g q0 dl dm qf;go_wp2;go_meet;exact H9.o
     case rest =>
      clear z1 z2 z3 bG ah cb du dw dx bz bA bB bC;obtain⟨ax,⟨d3,bU,rfl,rfl,rfl,z1,z2,z3,G,ac,ad⟩,rfl,cK,cL⟩:=hcut;obtain⟨pa,pm,P,ps,z,aa,T,p0,p1,p2,bD,bE,bF,pz,bv⟩:=ad.rd;obtain⟨ea,em,ec,es,ao,aq,ap,e0,e1,e2,bl,bm,bn,ez,bq⟩:=cL.rd;obtain⟨kh,br⟩:=gX ((Nd s l y).num.sign);have cQ:=ia (fun(W:N)(v:E)(h:La W v (Nd s l y))=>br▸Xl W v _ h);have ct:=ks (Nd s l y);rw[br]at ct;have cg:=ia br;clear br;obtain⟨km,bs⟩:=gX (kg*kh);have dz:-1<=km/\km<=1:=by
       have a1:kg = -1\/kg=0\/kg=1:=oM;have a2:kh = -1\/kh=0\/kh=1:=oM;rcases a1 with rfl|rfl|rfl<;>rcases a2 with rfl|rfl|rfl<;>omega
      (have ej:IntKind.i64.wrap (kg*kh)=km:=by rw[bs];exact iW _ ⟨by omega,by omega⟩);(have dB:wrap64 (kg*kh)=km:=by rw[bs];exact IntWalk.wrap64_in _ ⟨by omega,by omega⟩);have eh:IntKind.i64.wrap km=km:=iW _ ⟨by omega,by omega⟩;have cO:=ia (show kc (Nd s l) qs (q1,q1) (j+1+1)=if km<0 then Ai o1 (Sf (Nd s l) y x)else o1 by
       have e:=HN.o;rw[if_neg oM]at e;rw[e,show qs.getD (j+1-1) 0=y by rw[Nat.add_sub_cancel,gD,Hy.o];rfl];unfold ue;rw[cf.o,cg.o,bs])
      go_wp2;refine Ke [(⟨bU,0,Y⟩,O pa pm P),(⟨bU,1,Y⟩,I ps),(⟨bU,2,Y⟩,O z aa T),(⟨ax,0,Y⟩,O ea em ec),(⟨ax,1,Y⟩,I es),(⟨ax,2,Y⟩,O ao aq ap)] cA fun g=>?_;have E1:oa wc wc.drew:=(eR _).drew;refine Ac (i:=0) ?_;refine Ac (i:=2) ?_;refine Ec (i:=1) (cd.o _ _ (bv.ext E1)) ?_;rintro e w1 ⟨rfl,ae⟩;refine⟨_,rfl,(cE g ae),fun g=>?_⟩;refine Ec (i:=3) (cQ.o _ _ (bq.ext (E1.trans ae))) ?_;rintro e w3 ⟨rfl,u⟩;refine⟨_,rfl,(cE g u),fun g=>?_⟩;refine sN 4 ?_
      (iterate 2 refine Fc ?_);refine oN ?_;refine Wd ?_;have X3:oa wc w3:=E1.trans (ae.trans u);have G3:=G.ext X3;clear g p0 p1 p2 bD bE bF e0 e1 e2 bl bm bn;by_cases hneg:km<0
      ·exact absurd (by rw[cf.o,cg.o,bs];exact hneg) (cT.o j y x Hy.o Hx.o)
      ·(have ei:decide (km<0)=false:=by simpa using hneg);go_wp2;go_roundg (n-(j+1+1))
       case measure=>have:=Hn.o;omega
       case rel=>exact⟨j+1+1,by rw[Hn.o];omega,by go_num,by rw[Hn.o],by rw[cO.o,if_neg (Int.not_lt.2 hneg)];exact G3⟩
  ·obtain rfl:i=n:=oM;obtain⟨y1,y2,y3,ck,cl,y6⟩:=hI;have Y1:=ia y1;clear y1 y3 y6 H9 HT HG cV aH bt;go_wp2;obtain⟨pa,pm,P,ps,z,aa,T,p0,p1,p2,bD,bE,bF,pz,cu⟩:=ck.rd;obtain⟨ea,em,ec,es,ao,aq,ap,e0,e1,e2,bl,bm,bn,ez,cv⟩:=cl.rd;refine tp (fun i=>decide (2<i)) (Ca [(⟨w.heap.size+1,0,Y⟩,O pa pm P),(⟨w.heap.size+1,1,Y⟩,I ps),(⟨w.heap.size+1,2,Y⟩,O z aa T),(⟨w.heap.size+1+1,0,Y⟩,O ea em ec),(⟨w.heap.size+1+1,1,Y⟩,I es),(⟨w.heap.size+1+1,2,Y⟩,O ao aq ap)]) kM ?_ (fun g=>?_)
   ·exact cA
   refine sN 0 ?_
   iterate 2 refine so ?_
   refine oN ?_;refine Ah (i:=2) fun K p=>?_;go_simp;refine kO p (fun _=>?_) (fun g=>?_)
   ·exact cA
   clear p K;have g:=g rfl;refine Ah (i:=3) fun K p=>?_;go_simp;refine kO p (fun h=>nomatch h) (fun g=>?_);clear p K;refine Ah (i:=4) fun K p=>?_;go_simp;refine kO p (fun h=>nomatch h) (fun g=>?_);clear p K;refine Le kM ?_ _;go_wp2;refine bR (v:=.tuple #[Q #[O pa pm P,I ps,O z aa T],Q #[O ea em ec,I es,O ao aq ap],I true]) (by simp[results,Tryz.results165,go_sem,p0,p1,p2,bD,bE,bF,e0,e1,e2,bl,bm,bn]) rfl ?_;rw[<-HR.o];obtain⟨P1,P2,P3,P4,P5,P6⟩:=RB.copy2 ck cl oM cu cv rfl rfl;refine⟨(P6 w Y1.o oM oM).drew,Q #[O pa pm P,I ps,O z aa T],Q #[O ea em ec,I es,O ao aq ap],?_,?_,rfl⟩
   ·exact(cu.keep P4).ext (eR _).drew
   ·exact(cv.keep P4).ext (eR _).drew
end
section
section
variable {lo hi px qx:Rat}
def Ge(k:Rat)(a b:Pq)(x y:Rat):List Rat:=
 if (Mb a b x-k)*(Mb a b y-k)<0 then [x+(Mb a b x-k)/((Mb a b x-k)-(Mb a b y-k))*(y-x)]else []
def Mg(lo hi:Rat)(a b:Pq)(x y:Rat):List Rat:=[x,y]++Ge lo a b x y++Ge hi a b x y
def Sr{x y:Rat}(h:x*y<0):(x<0/\0<y)\/(0<x/\y<0):=by
 by_cases d:x<0
 ·refine .inl ⟨d,?_⟩;by_cases c:0<y
  ·exact c
  ·exfalso;have:=Rat.mul_nonneg (a:=-x) (b:=-y) (by grind) (by grind);grind
 ·by_cases e:x=0
  ·rw[e]at h;grind
  ·refine .inr ⟨by grind,?_⟩;by_cases c:y<0
   ·exact c
   ·exfalso;have:=Rat.mul_nonneg (a:=x) (b:=y) (by grind) (by grind);grind
def Ew{x y:Rat}(h:(x<0/\0<y)\/(0<x/\y<0)):x*y<0:=by
 rcases h with ⟨c,d⟩|⟨c,d⟩
 ·have:=Rat.mul_pos (a:=-x) (b:=y) (by grind) d;grind
 ·have:=Rat.mul_pos (a:=x) (b:=-y) c (by grind);grind
def xr(a b:Pq)(s t:Rat):Mb a b t-Mb a b s=Re a b*(t-s):=by unfold Mb;grind
def fo{a b:Pq}(h:0<=Re a b){s t:Rat}(c:s<=t):Mb a b s<=Mb a b t:=by have:=Rat.mul_nonneg (a:=Re a b) (b:=t-s) h (by grind);have:=xr a b s t;grind
def io{a b:Pq}(h:Re a b<=0){s t:Rat}(c:s<=t):Mb a b t<=Mb a b s:=by have:=Rat.mul_nonneg (a:=-Re a b) (b:=t-s) (by grind) (by grind);have:=xr a b s t;grind
def iC{k:Rat}{a b:Pq}{x y s t:Rat}(o:x<=s)(n:s<=t)(p:t<=y)(h:(Mb a b s-k)*(Mb a b t-k)<0):∃c∈Ge k a b x y,s<c/\c<t:=by
 have l:(Mb a b x-k)*(Mb a b y-k)<0:=by
  rcases Sr h with ⟨i,j⟩|⟨i,j⟩
  ·have f:0<=Re a b:=by
    rcases(Rat.le_total:0<=Re a b\/Re a b<=0)with q|q
    ·exact q
    ·have:=io q n;grind
   have:=fo f o;have:=fo f p;exact Ew (.inl ⟨by grind,by grind⟩)
  ·have f:Re a b<=0:=by
    rcases(Rat.le_total:0<=Re a b\/Re a b<=0)with q|q
    ·have:=fo q n;grind
    ·exact q
   have:=io f o;have:=io f p;exact Ew (.inr ⟨by grind,by grind⟩)
 unfold Ge;rw[if_pos l];refine⟨_,List.mem_singleton.2 rfl,?_⟩;have d:(Mb a b x-k)-(Mb a b y-k)≠0:=by
  rcases Sr l with ⟨i,j⟩|⟨i,j⟩<;>grind
 obtain⟨c,v⟩:=gX (x+(Mb a b x-k)/((Mb a b x-k)-(Mb a b y-k))*(y-x));rw[v];have e:Mb a b c=k:=by
  have w:=xr a b x c;have r:=xr a b x y;have u:c-x=(Mb a b x-k)/((Mb a b x-k)-(Mb a b y-k))*(y-x):=by grind
  have z:Re a b*(c-x)=(Mb a b x-k)/((Mb a b x-k)-(Mb a b y-k))*(Mb a b y-Mb a b x):=by rw[u,r];grind
  grind
 rcases Sr h with ⟨i,j⟩|⟨i,j⟩
 ·have f:0<=Re a b:=by
   rcases(Rat.le_total:0<=Re a b\/Re a b<=0)with q|q
   ·exact q
   ·have:=io q n;grind
  constructor
  ·rcases(Rat.le_total:c<=s\/s<=c)with q|q
   ·have:=fo f q;grind
   ·by_cases g:s=c
    ·rw[g,e]at i;grind
    ·grind
  ·rcases(Rat.le_total:t<=c\/c<=t)with q|q
   ·have:=fo f q;grind
   ·by_cases g:t=c
    ·rw[g,e]at j;grind
    ·grind
 ·have f:Re a b<=0:=by
   rcases(Rat.le_total:0<=Re a b\/Re a b<=0)with q|q
   ·have:=fo q n;grind
   ·exact q
  constructor
  ·rcases(Rat.le_total:c<=s\/s<=c)with q|q
   ·have:=io f q;grind
   ·by_cases g:s=c
    ·rw[g,e]at i;grind
    ·grind
  ·rcases(Rat.le_total:t<=c\/c<=t)with q|q
   ·have:=io f q;grind
   ·by_cases g:t=c
    ·rw[g,e]at j;grind
    ·grind
def DB(n:lo<hi){a b:Pq}{x y:Rat}{S:List Rat}(i:∀c∈Ge lo a b x y,c∈S)(g:∀c∈Ge hi a b x y,c∈S):∀(A B:List Rat),S=A++B->S.Pairwise (·<=·)->(∀s∈S,x<=s/\s<=y)->ni lo hi a b B
 | A,[],_,_,_=>trivial
 | A,[s],_,_,_=>trivial
 | A,s::t::B,e,hp,hb=>by
  have r:=hb s (by rw[e];simp);have u:=hb t (by rw[e];simp);have j:=hp;rw[e]at j;obtain⟨-,v,w⟩:=List.pairwise_append.1 j;obtain⟨z,K⟩:=List.pairwise_cons.1 v;have l:=z t sM;have o:∀k,(∀c∈Ge k a b x y,c∈S)->¬(Mb a b s-k)*(Mb a b t-k)<0:=fun k q hneg=>by
   obtain⟨c,p,P,R⟩:=iC r.1 l u.2 hneg;have f:=q c p;rw[e]at f;rcases List.mem_append.1 f with d|d
   ·have:=w c d s sM;grind
   ·rcases List.mem_cons.1 d with rfl|d
    ·grind
    ·rcases List.mem_cons.1 d with rfl|d
     ·grind
     ·have:=(List.pairwise_cons.1 K).1 c d;grind
  exact⟨Ww n (o lo i) (o hi g),DB n i g (A++[s]) (t::B) (by rw[e];simp) hp hb⟩
def Qq{k:Rat}{a b:Pq}{x y:Rat}(h:x<=y):∀c∈Ge k a b x y,x<=c/\c<=y:=by
 intro c g;unfold Ge at g;split at g
 ·rename_i hneg;rw[List.mem_singleton.1 g];obtain⟨d,l⟩:=gX ((Mb a b x-k)/((Mb a b x-k)-(Mb a b y-k)));have f:0<=d/\d<=1:=by
   rw[<-l];rcases Sr hneg with ⟨o,q⟩|⟨o,q⟩
   ·(have p:0<(Mb a b y-k)-(Mb a b x-k):=by grind);(have e:(Mb a b x-k)/((Mb a b x-k)-(Mb a b y-k))=(-(Mb a b x-k))*((Mb a b y-k)-(Mb a b x-k))⁻¹:=by grind);have i:=Rat.le_of_lt (Rat.inv_pos.2 p);have j:=Rat.mul_nonneg (a:=-(Mb a b x-k)) (by grind) i;have n:=Rat.mul_nonneg (a:=Mb a b y-k) (by grind) i;rw[e];refine⟨j,?_⟩;grind
   ·(have p:0<(Mb a b x-k)-(Mb a b y-k):=by grind);(have e:(Mb a b x-k)/((Mb a b x-k)-(Mb a b y-k))=(Mb a b x-k)*((Mb a b x-k)-(Mb a b y-k))⁻¹:=by grind);have i:=Rat.le_of_lt (Rat.inv_pos.2 p);have j:=Rat.mul_nonneg (a:=Mb a b x-k) (by grind) i;have n:=Rat.mul_nonneg (a:=-(Mb a b y-k)) (by grind) i;rw[e];refine⟨j,?_⟩;grind
  rw[l];have j:=Rat.mul_nonneg (a:=d) (b:=y-x) f.1 (by grind);have n:=Rat.mul_nonneg (a:=1-d) (b:=y-x) (by grind) (by grind);constructor<;>grind
 ·cases g
def YH(p:lo<hi)(T:px<qx){a b:Pq}(w:a.1<b.1){x y:Rat}(K:x=Gg px qx a.1)(P:y=Gg px qx b.1)(d:x<y){S:List Rat}(f:S.Perm (Mg lo hi a b x y))(g:S.Pairwise (·<=·)):Jg lo hi a b S=Eb lo hi px qx a b:=by
 have i:∀s∈S,x<=s/\s<=y:=fun s h=>by
  have h:=f.mem_iff.1 h;unfold Mg at h;simp only[List.mem_append,List.mem_cons,List.not_mem_nil,or_false]at h;rcases h with ((rfl|rfl)|h)|h
  ·exact⟨Rat.le_refl,Rat.le_of_lt d⟩
  ·exact⟨Rat.le_of_lt d,Rat.le_refl⟩
  ·exact Qq (Rat.le_of_lt d) s h
  ·exact Qq (Rat.le_of_lt d) s h
 have r:x∈S:=f.mem_iff.2 (by unfold Mg;simp);have t:y∈S:=f.mem_iff.2 (by unfold Mg;simp);have k:=DB p (a:=a) (b:=b) (x:=x) (y:=y) (S:=S) (fun c j=>f.mem_iff.2 (by unfold Mg;simp[j])) (fun c j=>f.mem_iff.2 (by unfold Mg;simp[j])) [] S rfl g i;cases S with
 | nil=>cases r
 | cons s l =>
  have u:s=x:=by
   rcases List.mem_cons.1 r with e|h
   ·exact e.symm
   ·have:=(List.pairwise_cons.1 g).1 x h;have:=(i s sM).1;grind
  obtain⟨z,q⟩:∃z,(s::l).getLast?=C z:=⟨_,List.getLast?_eq_some_getLast sM⟩;have v:z=y:=by
   obtain⟨A,o⟩:=List.getLast?_eq_some_iff.1 q;rw[o]at t g;have n:z∈s::l:=by rw[o];simp
   have R:=(i z n).2;rcases List.mem_append.1 t with h|h
   ·have:=(List.pairwise_append.1 g).2.2 y h z sM;grind
   ·exact(List.mem_singleton.1 h).symm
  exact Oz p (by grind) (u.trans K) (v.trans P) q k
end
end
section
open Go.RowKit Go.Shelf Go.Sort Go.Lib
def LB{g:LP}:∀{c done:List Pl},Ie g done c=0->∀(i:Nat)(p:Pl),c[i]?=C p->kd g (done++c.take i) p=true
 | [],_,_,i,p,b=>by simp at b
 | a::r,done,h,i,p,b=>by
  unfold Ie at h;split at h
  ·rename_i hc;cases i with
   | zero=>simp at b;subst b;simpa using hc
   | succ i =>
    have:=LB h i p (by simpa using b);simpa using this
  ·cases h
end
section
section
variable {lo hi px qx m:Rat}
def Jr(F:Rat->Rat)(b:px<m)(c:m<qx)(x:Rat):F (Gg px m x)+F (Gg m qx x)=F (Gg px qx x)+F m:=by
 unfold Gg;by_cases q:x<=m
 ·have e:(if x<=m then m else if x<=qx then x else qx)=m:=if_pos q;rw[e];have a:(if x<=px then px else if x<=m then x else m)=if x<=px then px else if x<=qx then x else qx:=by grind
  rw[a]
 ·have e:(if x<=px then px else if x<=m then x else m)=m:=by grind
  have a:(if x<=m then m else if x<=qx then x else qx)=if x<=px then px else if x<=qx then x else qx:=by grind
  rw[e,a];grind
def Bz(d:px<m)(e:m<qx)(a b:Pq):Eb lo hi px m a b+Eb lo hi m qx a b=Eb lo hi px qx a b:=by
 unfold Eb;by_cases h:a.1=b.1
 ·rw[if_pos h,if_pos h,if_pos h];grind
 ·rw[if_neg h,if_neg h,if_neg h];by_cases c:Re a b=0
  ·rw[if_pos c,if_pos c,if_pos c];have f:=Jr (fun x=>x) d e a.1;have g:=Jr (fun x=>x) d e b.1;grind
  ·rw[if_neg c,if_neg c,if_neg c];have f:=Jr (fun x=>ig lo hi (Mb a b x)) d e a.1;have g:=Jr (fun x=>ig lo hi (Mb a b x)) d e b.1;grind
def Mt(J J' c:Pq->Pq->Rat)(h:∀a b,J a b+J' a b=c a b):∀l:List Md,qb J l+qb J' l=qb c l
 | []=>by show (0:Rat)+0=0;grind
 | e::t=>by
  have d:=Mt J J' c h t;show J _ _+qb J t+(J' _ _+qb J' t)=c _ _+qb c t;rw[<-h,<-d];grind
def We(lo hi px qx:Rat)(L U:LP):Rat:=qb (Eb lo hi px qx) (yb U)-qb (Eb lo hi px qx) (yb L)
def sI(a:px<m)(b:m<qx)(L U:LP):We lo hi px m L U+We lo hi m qx L U=We lo hi px qx L U:=by have c:=Mt (Eb lo hi px m) (Eb lo hi m qx) (Eb lo hi px qx) (Bz a b) (yb U);have d:=Mt (Eb lo hi px m) (Eb lo hi m qx) (Eb lo hi px qx) (Bz a b) (yb L);unfold We;grind
def oE{l:List Pq}(e:∀p∈l,px<=p.1/\p.1<=qx/\lo<=p.2/\p.2<=hi):Dd Pa l/2 = -Dd (Eb lo hi px qx) l:=by
 have f:=Xo (J:=Eb lo hi px qx) (J':=fun a b=>-(Pa a b/2)+((fun p:Pq=>p.1*p.2/2-lo*p.1) b-(fun p:Pq=>p.1*p.2/2-lo*p.1) a)) (S:=fun p=>px<=p.1/\p.1<=qx/\lo<=p.2/\p.2<=hi) (fun a b c d=>by
  rw[mE c.1 c.2.1 d.1 d.2.1 c.2.2.1 c.2.2.2 d.2.2.1 d.2.2.2];unfold Pa;grind) e
 rw[To,ns]at f;rw[f];have j:=To (fun a b=>Pa a b/2) (fun a b=>Pa a b/2) l;have k:=Xo (J:=fun a b=>Pa a b/2+Pa a b/2) (J':=Pa) (S:=fun _=>True) (fun a b _ _=>by grind) (l:=l) (fun _ _=>trivial);have i:=To (fun a b=>-(Pa a b/2)) (fun a b=>Pa a b/2) l;have g:=Xo (J:=fun a b=>-(Pa a b/2)+Pa a b/2) (J':=fun a b=>(fun _:Pq=>(0:Rat)) b-(fun _:Pq=>(0:Rat)) a) (S:=fun _=>True) (fun a b _ _=>by grind) (l:=l) (fun _ _=>trivial);rw[ns]at g;grind
def rI{cs L U:LP}(d:Qe cs)(k:Bb L)(i:∀q,q∈L ↔ Ld cs q)(f:∀e∈yb L,si cs e.1 e.2)(l:Bb U)(j:∀q,q∈U ↔ Vg cs q)(g:∀e∈yb U,qk cs e.2 e.1)(c:∀p∈cs.map qp,px<=p.1/\p.1<=qx/\lo<=p.2/\p.2<=hi):We lo hi px qx L U=Dd Pa (cs.map qp)/2:=by
 unfold We;rw[oE c,Pr,Vz (Eb lo hi px qx) (fun a b h=>ms (by show Gg px qx (a.1:Rat)=Gg px qx (b.1:Rat);rw[h])) (fd cs),Yy _ (JF d k i f),<-Yy _ (oD d l j g),Ry (Eb lo hi px qx) (fun a b=>FH a b)];grind
