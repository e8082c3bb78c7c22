import Derived.Test.YtgimcmpeceifnaaGreatDoorColA13
set_option maxRecDepth 1000000
set_option maxHeartbeats 16000000
set_option linter.all false
open Go.Value renaming int->O,slice->Z,pointer->N,agg->H
open Go.IntKind renaming i64->Y,u8->F
open Option renaming none->X,some->V
open Go.Obj renaming cells->I
open Go renaming Value->M,World->C,Addr->G
namespace Go.Proofs.YtgimcmpeceifnaaGreatDoor.Cop
section
open Go.RowKit Go.Shelf Go.Sort
def Bn.keep{w w':C}{c:List M}{p:Pl}(h:Bn w c p)(k:Ka 91 w w'):Bn w' c p:=by obtain⟨v,a,b,d⟩:=h;exact⟨v,a,b.E k,d⟩
def Fa.ne_blkD{T T':TypeId}{k:Nat}{w:C}{base:Nat}{v:M}{cs:List (List M)}(h:Fa T k w base v cs){b:Nat}{c:Array M}{d:Nat×Nat}(a:w.heap[b]?=V (I c T' d))(i:T'≠T):v.ownBlock≠V b:=by
 intro e;rcases h.2.2 with ⟨f,_⟩|⟨g,cap,cur,hv,_,j,_⟩
 ·rw[f]at e;cases e
 ·rw[hv]at e;cases e;rw[j]at a;cases a;exact i rfl
def GJ:(Tryz.prog.info? 95).map (fun i=>(i.zero,i.size,i.bytes))=V (V (H #[.string ⟨#[]⟩,Z X 0 0,O Y 0,O Y 0,O Y 0,O Y 0,O Y 0,O Y 0,O Y 0,O F 0]),10,104):=kM
def Ep(L:Nat)(c:List M):Prop:=∀j,(c.getD 1 (.bool false)).ownBlock=V j->L<=j
def Oj(w:C)(base L:Nat)(v:M)(ps:List Pl):Prop:=∃cs,Fa 95 10 w base v cs/\cs.length=ps.length/\(∀(i:Nat) c p,cs[i]?=V c->ps[i]?=V p->Bn w c p)/\∀c∈cs,Ep L c
def Oj.own{w:C}{base L:Nat}{v:M}{ps:List Pl}(h:Oj w base L v ps):uj w base v ps:=by obtain⟨a,b,c,d,_⟩:=h;exact⟨a,b,c,d⟩
def UT(w e:C)(a:Nat)(f k v3:M)(ps:List Pl)(g:Nat)(t4:M)(W:C):Prop:=
 ∃(i:Nat)(d:M)(b:List (List M)),i<=ps.length/\t4=O Y (i:Nat)/\g=ps.length-i/\e.grownBy W (V a)/\W.heap[a]?=V (I #[v3,d] 39 (0,0))/\
  Fa 95 10 W (a+1) d b/\b.length=i/\(∀(j:Nat) c p,b[j]?=V c->ps[j]?=V p->Bn W c p)/\∀c∈b,Ep a c
def pN(w:C)(vg vp:M)(g:LP)(ps:List Pl)(hg:Ab w vg g)(hp:pf w vp ps)(a4:g.length<=1000)(aG:ps.length<=1000)(aH:∀p∈ps,p.shape.length<=1000):Calls Tryz.prog 12 #[H #[vg,vp]] w fun e w'=>∃vg' vp' L,e=.returned (H #[vg',vp'])/\Fa 91 2 w' w.heap.size vg' (g.map pc)/\(∀j,vg'.ownBlock=V j->j<L)/\Oj w' w.heap.size L vp' ps/\Ba w w':=by
 have aS:=Aa (fun W (hW:Ba w W)=>XE W vg g (hg.f hW) a4);obtain⟨ga,gn,gc,rfl⟩:=hg.i;obtain⟨pa,pn,ah,rfl⟩:=hp.i;have Hn:=Aa hp.len.symm;have Hp:=Aa hp;have aY:=Aa aH;have bv:pn<=1000:=by rw[hp.len];exact aG
 obtain⟨R,hR⟩:∃R:Ending->C->Prop,(fun e w'=>∃vg' vp' L,e=.returned (H #[vg',vp'])/\Fa 91 2 w' w.heap.size vg' (g.map pc)/\(∀j,vg'.ownBlock=V j->j<L)/\Oj w' w.heap.size L vp' ps/\Ba w w')=R:=⟨_,rfl⟩;rw[hR];have HR:=Aa hR;clear hg hp hR aH aG;go_in;go_wp2_with(go_at_call 39;refine cM (aS.o _ eA) ?_;rintro e w3 ⟨v3,rfl,s,an⟩;obtain⟨a3,n3,c3,rfl⟩:=s.i);have K0:=an.e (UC w (I #[Z ga gn gc,Z pa pn ah] 25) (I #[Z X 0 0,Z X 0 0] 39));have K1:=an.e (Gy w (I #[Z ga gn gc,Z pa pn ah] 25) (I #[Z X 0 0,Z X 0 0] 39));obtain⟨b3,aj⟩:=gX w3.heap.size;obtain⟨w4,ag⟩:=gX (w3.alloc (I #[Z a3 n3 c3,Z X 0 0] 39));have ae:Ba w3 w4:=by rw[<-ag];exact(eR w3).alloc _
 have bc:w4.heap.size=b3+1:=by rw[<-ag];simp[aj]
 have ay:w4.heap[b3]?=V (I #[Z a3 n3 c3,Z X 0 0] 39 (0,0)):=by rw[<-ag];exact kc _ _ _ aj.symm
 have aB:Ba w w4:=(((((eR w).alloc _).alloc _).trans an).trans ae);have aJ:=s.ext ae;have aK:∀j,(Value.slice a3 n3 c3).ownBlock=V j->w.heap.size+1<j/\j<b3:=fun j hj=>by
  obtain⟨q1,q2⟩:=s.lt j hj;simp only[wZ,Yb]at q1;exact⟨by omega,by omega⟩
 have be:=Ya K1;rw[aj]at be ⊢;rw[ag];have aP:=Aa (ae.e K0);have aQ:=Aa (ae.e K1);have av:=Aa ay;have aT:=Aa aB;have aZ:=Aa aJ;have a0:=Aa aK;clear K0 K1 ag ae ay aB aJ aK s an aj;go_wp2;go_loopg [4] pn (UT w w4 b3 (Z ga gn gc) (Z pa pn ah) (Z a3 n3 c3) ps)
 case atStart=>exact⟨0,_,[],by omega,rfl,by rw[Hn.o];rfl,io _ _,av.o,by rw[<-bc];exact Fa.nil _ _ _ _,rfl,fun j c p a=>by simp at a,fun c a=>by cases a⟩
 case round =>
  obtain⟨i,vs,cs,hi,rfl,rfl,y,af,r,aD,am,al⟩:=hrel;rw[Hn.o]at hi;obtain⟨va,vn,vc,rfl⟩:=r.i;have aI:=y.size;have ak:=(y.block w.heap.size oM (by simp;omega)).trans aP.o;have bg:=Da ak (i:=0) (u:=Z ga gn gc) rfl;have bh:=Da ak (i:=1) (u:=Z pa pn ah) rfl;have bj:=Da af (i:=1) (u:=Z va vn vc) rfl;have bi:=Da af (i:=0) (u:=Z a3 n3 c3) rfl;have au:Ba w wr:=Gp aT.o y oM;by_cases a8:i<pn
  ·obtain⟨p,hq⟩:∃q,ps[i]?=V q:=⟨ps[i]'(by rw[Hn.o];omega),by simp[Hn.o,a8]⟩;obtain⟨b,o,v,rfl,hb,hv,bb,a⟩:=(Hp.o.f au).at' hq;obtain⟨b0,o0,v0,e0,bt,_,_,_⟩:=Hp.o.at' hq;cases e0;have aR:=Aa (fun W (hW:Ba wr W)=>qS W p.name v p.shape p.depth p.density p.gx p.gz p.way p.ax p.az p.skin (hv.f hW) (aY.o p (lM hq)));obtain⟨sa,sn,sc,rfl⟩:=hv.i;have a2:=a 0 (.string p.name) rfl;have bk:=a 1 (Z sa sn sc) rfl;have bl:=a 2 (O Y p.depth) rfl;have bm:=a 3 (O Y p.density) rfl;have bn:=a 4 (O Y p.gx) rfl;have bo:=a 5 (O Y p.gz) rfl;have bp:=a 6 (O Y p.way) rfl;have bq:=a 7 (O Y p.ax) rfl;have br:=a 8 (O Y p.az) rfl;have bs:=a 9 (O F p.skin) rfl;simp only[Nat.add_zero]at a2;have Hq:=Aa hq;have aW:=Aa y;have aV:=Aa af;have ab:=Aa r;have aq:=Aa am;have ap:=Aa al;have p1:(0:Int)<=(i:Int):=oM;have p2:(i:Int)<(pn:Int):=oM;clear hq hv a y af r am al ak;go_wp2;refine Ai (fun i=>decide (10<i)) (Ea [(⟨b3,1,X⟩,Z va vn vc),(⟨w.heap.size,1,X⟩,Z (V ⟨b,o,X⟩) pn ah),(⟨b,o+i*10,X⟩,.string p.name),(⟨b,o+i*10+1,X⟩,Z sa sn sc),(⟨b,o+i*10+2,X⟩,O Y p.depth),(⟨b,o+i*10+3,X⟩,O Y p.density),(⟨b,o+i*10+4,X⟩,O Y p.gx),(⟨b,o+i*10+5,X⟩,O Y p.gz),(⟨b,o+i*10+6,X⟩,O Y p.way),(⟨b,o+i*10+7,X⟩,O Y p.ax),(⟨b,o+i*10+8,X⟩,O Y p.az),(⟨b,o+i*10+9,X⟩,O F p.skin)]) kM ?_ (fun l=>?_)
   ·exact cA
   refine sN 0 ?_
   iterate 7 refine qi ?_
   refine oN ?_;refine Tm (i:=7) (aR.o _ (eR wr).drew) ?_;rintro e w7 ⟨v7,rfl,aL,aO,ba⟩;obtain⟨a7,n7,c7,rfl⟩:=Ma aL;refine⟨_,rfl,(cE l aO),fun l=>?_⟩;have X7:Ba wr w7:=((eR wr).drew).trans aO;refine kd (i:=8) fun K hK=>?_;go_simp;refine kO hK (fun _=>cE l ((eR _).alloc _)) (fun l=>?_);clear hK K;have l:=l rfl;have hA:Ba wr (w7.alloc (I #[.string p.name,Z a7 n7 c7,O Y p.depth,O Y p.density,O Y p.gx,O Y p.gz,O Y p.way,O Y p.ax,O Y p.az,O F p.skin] 95)):=X7.alloc _;refine kd (i:=9) fun K hK=>?_;refine Vo (T:=95) (t:=37) (z:=H #[.string ⟨#[]⟩,Z X 0 0,O Y 0,O Y 0,O Y 0,O Y 0,O Y 0,O Y 0,O Y 0,O F 0]) (k:=10) (bytes:=104) (v:=Z va vn vc) (base:=b3+1) GJ rfl dM dM Tryz.underlying37 rfl _ _ rfl rfl (cs:=cs) (ab.o.ext hA) (ad:=⟨w7.heap.size,0,X⟩) (m:=1) (c:=1) rfl [(#[.string p.name,Z a7 n7 c7,O Y p.depth,O Y p.density,O Y p.gx,O Y p.gz,O Y p.way,O Y p.ax,O Y p.az,O F p.skin]:Array M).toList] rfl sM (by exact Wn w7 #[.string p.name,Z a7 n7 c7,O Y p.depth,O Y p.density,O Y p.gx,O Y p.gz,O Y p.way,O Y p.ax,O Y p.az,O F p.skin] 95) (by simp[Value.oneCell']) oM (by have:=hA.size;omega) ?_;intro v' w9 d n bf;obtain⟨a9,n9,c9,rfl⟩:=d.i;have ac:=Aa (fun j (h:(Value.slice va vn vc).ownBlock=V j)=>ab.o.lt j h);refine kO hK (fun _=>Ea.grown l n (fun q hq e=>?_)) (fun l=>?_)
   ·have h9:=(ac.o _ e.symm).1;simp at hq;rcases hq with rfl|rfl|rfl|rfl|rfl|rfl|rfl|rfl|rfl|rfl|rfl|rfl<;>(dsimp only at h9;omega)
   clear hK K;have l:=l rfl;refine oo (i:=10) ?_;have ai:=Ah n (hA.e aV.o) (fun e=>by have:=(ac.o _ e.symm).1;omega);have n1:=Da ai (i:=1) (u:=Z va vn vc) rfl;have nf:=Za ai;have aE:Ka 91 wr w9:=fun x c f hx=>Ah n (hA.e hx) (fun e=>by
    have h8:=(ab.o.ext hA).ne_blkD (hA.e hx) dM;exact h8 e.symm)
   have ao:=Aa ai;have aX:=Aa aE;clear ai aE;refine kd (i:=11) fun K hK=>?_;go_simp;refine kO hK (fun h=>nomatch h) (fun l=>?_);clear hK K;refine Jb kM ?_ _;go_wp2;go_roundg (pn-(i+1))
   case measure=>have:=Hn.o;omega
   case rel =>
    have aF:Ka 91 wr (w9.setCell ⟨b3,1,X⟩ (Z a9 n9 c9)):=aX.o.set (p:=⟨b3,1,X⟩) ao.o dM _;refine⟨i+1,Z a9 n9 c9,cs++[#[.string p.name,Z a7 n7 c7,O Y p.depth,O Y p.density,O Y p.gx,O Y p.gz,O Y p.way,O Y p.ax,O Y p.az,O F p.skin].toList],by rw[Hn.o];omega,by go_num,by rw[Hn.o],uk (Lk aW.o ((Below.mono hA aI).trans (Yg (base:=w4.heap.size) n (nT aI hA.size) (fun k hk=>by have:=(ac.o k hk).1;omega)))) 1 _,Kh ao.o 1 _,d.setOther (fun e=>by have:=(d.lt _ e).1;dsimp only at this;omega) _,by simp[aD],?_,?_⟩;rotate_left
    ·intro c a;rcases List.mem_append.1 a with a|a
     ·exact ap.o c a
     ·rw[List.mem_singleton.1 a];intro j hj;have h1:=ba j hj;simp only[Yb]at h1;omega
    intro j c x a hx;by_cases hj:j<cs.length
    ·rw[List.getElem?_append_left hj]at a;exact(aq.o j c x a hx).keep aF
    ·rw[List.getElem?_append_right oM]at a;have hl:=(lS.1 a).1;simp at hl;have a5:j-cs.length=0:=oM;rw[a5]at a;have a6:j=i:=oM;subst a6;rw[Hq.o]at hx;cases hx;simp at a;subst a;refine⟨Z a7 n7 c7,rfl,?_,bb⟩;have h1:Ja (w7.alloc (I #[.string p.name,Z a7 n7 c7,O Y p.depth,O Y p.density,O Y p.gx,O Y p.gz,O Y p.way,O Y p.ax,O Y p.az,O F p.skin] 95)) (Z a7 n7 c7) p.shape:=aL.f ((eR _).alloc _);have h2:Ka 91 (w7.alloc (I #[.string p.name,Z a7 n7 c7,O Y p.depth,O Y p.density,O Y p.gx,O Y p.gz,O Y p.way,O Y p.ax,O Y p.az,O F p.skin] 95)) w9:=fun x c f hx=>Ah n hx (fun e=>by
      have h8:=(ab.o.ext hA).ne_blkD hx dM;exact h8 e.symm)
     exact(h1.E h2).E ((Ka.refl _ w9).set (p:=⟨b3,1,X⟩) ao.o dM _)
  ·obtain rfl:pn=i:=oM;have aa:=(y.block (w.heap.size+1) oM (by simp;omega)).trans aQ.o;have r0:=Da aa (i:=0) (u:=Z X 0 0) rfl;have r1:=Da aa (i:=1) (u:=Z X 0 0) rfl;have rf:=Za aa;have aM:Fa 91 2 wr (w.heap.size+1+1) (Z a3 n3 c3) (g.map pc):=(aZ.o.keep (Cm y av.o dM)).mono (by simp only[wZ,Yb];omega);have zr:=Ya aa;have aA:Ka 91 wr ((wr.setCell ⟨w.heap.size+1,0,X⟩ (Z a3 n3 c3)).setCell ⟨w.heap.size+1,1,X⟩ (Z va vn vc)):=((Ka.refl _ wr).set (p:=⟨w.heap.size+1,0,X⟩) aa dM _).set (p:=⟨w.heap.size+1,1,X⟩) (Kh aa 0 _) dM _;have aC:Ba w ((wr.setCell ⟨w.heap.size+1,0,X⟩ (Z a3 n3 c3)).setCell ⟨w.heap.size+1,1,X⟩ (Z va vn vc)):=(au.set dO _).set dO _;have d:=(((r.setOther (p:=⟨w.heap.size+1,0,X⟩) (fun e=>by have:=(r.lt _ e).1;dsimp only at this;omega) (Z a3 n3 c3)).setOther (p:=⟨w.heap.size+1,1,X⟩) (fun e=>by have:=(r.lt _ e).1;dsimp only at this;omega) (Z va vn vc))).mono (b':=w.heap.size) oM;have bu:=Kh (Kh aa 0 (Z a3 n3 c3)) 1 (Z va vn vc);have ar:=Aa d;have aw:=Aa aA;have aU:=Aa aC;have a1:=Aa aM;have aq:=Aa am;have ap:=Aa al;clear d aA aC aM am al r y ak af au;go_wp2;refine bR (v:=H #[Z a3 n3 c3,Z va vn vc]) (by simp[results,Tryz.results12,go_sem,r0,r1,rf]) rfl ?_;rw[<-HR.o];exact⟨_,_,b3,rfl,(a1.o.keep aw.o).mono oM,fun j hj=>(a0.o j hj).2,⟨cs,ar.o,by rw[aD,Hn.o],fun j c p a hx=>(aq.o j c p a hx).keep aw.o,ap.o⟩,aU.o⟩
def qN(w:C)(d f:M)(g:LP)(ps:List Pl)(m:Ab w d g)(n:pf w f ps)(a:g.length<=1000)(b:ps.length<=1000)(c:∀p∈ps,p.shape.length<=1000):Calls Tryz.prog 12 #[H #[d,f]] w fun e i=>∃vg' vp',e=.returned (H #[vg',vp'])/\Ja i vg' g/\uj i w.heap.size vp' ps/\Ba w i:=
 (pN w d f g ps m n a b c).mono fun _ _ ⟨vg',vp',_,l,j,_,k,o⟩=>⟨vg',vp',l,j.pts,k.own,o⟩
end
section
open Go.RowKit Go.Shelf Go.Sort
attribute [local go_sem] Oper.semAt_some
def UN(Q:Exit->Act->C->Prop)(w w5:C)(sb:Nat)(sk y l x step L b:Int)(ga:Option G)(gn gc:Nat)(pa:Option G)(pn ay:Nat)(a5:Option G)(n5 k5:Nat)(js:List (JS×M))(aq:Fe w5 (Z a5 n5 k5) js)(ar:n5<=120)(aD:∀j∈js,∃w',Ja w' j.2 j.1.p.shape)(aB:w5.heap[w.heap.size+1]?=V (I #[O F sk,O Y y,O Y l,O Y x,O Y step,O Y L,O Y b] 32 (0,0)))(aC:w5.heap[sb]?=V (I (pj ⟨sk,y,l,x,step,L,b⟩ (Z ga gn gc) (Z pa pn ay) (Z X 0 0) (Z X 0 0) (Z X 0 0)) 89 (0,0)))(an:w5.heap[sb+1]?=V (I #[N (V ⟨sb,0,X⟩)] 84 (0,0)))(bi:w.heap.size+1<sb)(a0:Act)(aQ:yA (w.heap.size+1) sb a5 n5 k5 a0)(aR:a0.tmps.getD 37 undef=O Y (0:Nat))(hQ:∀a W vs,yA (w.heap.size+1) sb a5 n5 k5 a->w5.grownBy W (V sb)->W.heap[sb]?=V (I (pj ⟨sk,y,l,x,step,L,b⟩ (Z ga gn gc) (Z pa pn ay) vs (Z X 0 0) (Z X 0 0)) 89 (0,0))->Fa 113 15 W w5.heap.size vs ((js.filter fun j=>Nf ⟨sk,y,l,x,step,L,b⟩ j.1).map jc)->Q (.exit 0) a W):(Code.loop (Qc Tryz.f38 0)).wpIn Fence.wide 5 Tryz.prog Q a0 w5:=by
 have aS:=Ya an;have aH:=aq.len;have Hn:=Aa aH.symm;have ba:n5<=9223372036854775807:=oM;have aO:=Aa ar;have aL:=Aa aq;have aM:=Aa (fun j hj=>aD j hj);have aJ:=Aa aB;have aA:=Aa aC;have aK:=Aa an;have HQ:=Aa hQ;clear aq aD aB aC an aH hQ;unfold Qc;simp only[Tryz.f38,Qb,List.cons_append,List.nil_append,List.append_nil,List.getD_cons_succ,List.getD_cons_zero];refine wpIn_loop_ghost_k (fun gk a W=>PV w5 w5 sb ⟨sk,y,l,x,step,L,b⟩ (Z ga gn gc) (Z pa pn ay) (Z a5 n5 k5) js gk (a.tmps.getD 37 undef) W/\yA (w.heap.size+1) sb a5 n5 k5 a) n5 ?h0 ?round
 case h0=>exact⟨⟨0,_,by omega,aR,by rw[Hn.o];rfl,io _ _,aA.o,by simpa using Fa.nil _ _ _ _⟩,aQ⟩
 case round =>
  intro gk aa wr hinv;obtain⟨tt,dd⟩:=aa;obtain⟨⟨i,vs,hi,al,rfl,ae,aw,ab⟩,f1,f3,f8,aj,ak,fd⟩:=hinv;dsimp only at f1 f3 f8 aj ak fd al;subst fd;obtain⟨u,hu,ht⟩:=Jg tt 196 f1;simp only[hu]at f3 f8 aj ak al;clear hu;subst ht;simp only[List.range,List.range.loop,List.map_cons,List.map_nil,f3,f8,aj,ak,al];clear f1 f3 f8 aj ak al;intro J K hJ hK;rw[Hn.o]at hi;have ah:=ae.size;have ai:=Aa ae;have ag:=Aa aw;have au:=(ae.block (sb+1) aS sM).trans aK.o;have av:=(ae.block (w.heap.size+1) oM (by simp;omega)).trans aJ.o;have bb:=Da au (i:=0) (u:=N (V ⟨sb,0,X⟩)) rfl;by_cases aG:i<n5
  ·obtain⟨⟨⟨⟨nm,sh,d,de,gx,gz,wy,ax,az,g⟩,k,⟨xl,xh⟩,zl,zh⟩,v⟩,hq⟩:∃q,js[i]?=V q:=⟨js[i]'(by rw[Hn.o];omega),by simp[Hn.o,aG]⟩;obtain⟨va,vn,vc,aI⟩:=(aM.o _ (lM hq)).elim fun _ h=>Ma h;dsimp only at aI;subst aI;have aE:=aL.o.keep (Cm ae aA.o dM);obtain⟨bk,o,rfl,hb,hc⟩:=aE.at' hq;unfold qh at hc;dsimp only at hc;have aP:=hc 0 (.string nm) rfl;have aY:=hc 1 (Z va vn vc) rfl;have aZ:=hc 2 (O Y d) rfl;have a1:=hc 3 (O Y de) rfl;have a2:=hc 4 (O Y gx) rfl;have a3:=hc 5 (O Y gz) rfl;have a4:=hc 6 (O Y wy) rfl;have a6:=hc 7 (O Y ax) rfl;have a7:=hc 8 (O Y az) rfl;have a8:=hc 9 (O F g) rfl;have aT:=hc 10 (O Y k) rfl;have aU:=hc 11 (O Y xl) rfl;have aV:=hc 12 (O Y xh) rfl;have aW:=hc 13 (O Y zl) rfl;have aX:=hc 14 (O Y zh) rfl;simp only[Nat.add_zero]at aP;have bc:=Da av (i:=0) (u:=O F sk) rfl;have bf:w.heap.size+1<wr.heap.size:=oM;have bg:sb+1<wr.heap.size:=oM;have bh:sb<wr.heap.size:=oM;obtain⟨ib,ap⟩:=gX (Nf ⟨sk,y,l,x,step,L,b⟩ ⟨⟨nm,sh,d,de,gx,gz,wy,ax,az,g⟩,k,(xl,xh),zl,zh⟩);have ao:=mT (fun j:JS×M=>Nf ⟨sk,y,l,x,step,L,b⟩ j.1) hq;simp only[ap]at ao;have am:=Aa ao;have s:=Aa ab;have af:((g==sk) || (g==3))=ib:=ap;have p6:i<n5:=aG;clear hq hc ap ao ab ae aw aE au av;have HJ:=Aa hJ;cases ib with
   |false=>
    rw[Bool.or_eq_false_iff]at af;obtain⟨q1,q2⟩:=af
    gi_wp2
    refine Handed.intro (n5-(i+1)) (by have:=Hn.o;omega) (hJ _ _ _ ⟨?rel,rfl,rfl,rfl,rfl,rfl,rfl⟩)
    case rel =>
     have hE:=(eR wr).alloc (I #[.string nm,Z va vn vc,O Y d,O Y de,O Y gx,O Y gz,O Y wy,O Y ax,O Y az,O F g,O Y k,O Y xl,O Y xh,O Y zl,O Y zh] 113);refine⟨i+1,_,by have:=Hn.o;omega,by show (_:M)=_;go_num,by rw[Hn.o],Lk ai.o (Below.mono hE ah),hE.e ag.o,?_⟩;rw[am.o];simpa using s.o.ext hE
   |true=>
    obtain⟨wa,wn,wc,rfl⟩:=s.o.i;have be:=Da ag.o (i:=9) (u:=Z wa wn wc) rfl;have R:=Aa (fun j (h:(Value.slice wa wn wc).ownBlock=V j)=>s.o.lt j h);cases q1:(g==sk)with
    |true=>
     clear af
     gi_wp2
     refine pw (fun i=>decide (9<i)) (Ea [(⟨sb+1,0,X⟩,N (V ⟨sb,0,X⟩)),(⟨sb,9,X⟩,Z wa wn wc),(⟨wr.heap.size,0,X⟩,.string nm),(⟨wr.heap.size,1,X⟩,Z va vn vc),(⟨wr.heap.size,2,X⟩,O Y d),(⟨wr.heap.size,3,X⟩,O Y de),(⟨wr.heap.size,4,X⟩,O Y gx),(⟨wr.heap.size,5,X⟩,O Y gz),(⟨wr.heap.size,6,X⟩,O Y wy),(⟨wr.heap.size,7,X⟩,O Y ax),(⟨wr.heap.size,8,X⟩,O Y az),(⟨wr.heap.size,9,X⟩,O F g),(⟨wr.heap.size,10,X⟩,O Y k),(⟨wr.heap.size,11,X⟩,O Y xl),(⟨wr.heap.size,12,X⟩,O Y xh),(⟨wr.heap.size,13,X⟩,O Y zl),(⟨wr.heap.size,14,X⟩,O Y zh)]) kM ?_ (fun f=>?_)
     ·exact cA
     refine sN 0 ?_
     (iterate 6 refine Nm ?_);refine oN ?_;refine mj (i:=6) fun K hK=>?_;go_simp;refine kO hK (fun _=>cE f ((eR _).alloc _)) (fun f=>?_);clear hK K;have f:=f rfl;have hA:Ba wr (((wr.alloc (I #[.string nm,Z va vn vc,O Y d,O Y de,O Y gx,O Y gz,O Y wy,O Y ax,O Y az,O F g,O Y k,O Y xl,O Y xh,O Y zl,O Y zh] 113)).alloc (I #[.string nm,Z va vn vc,O Y d,O Y de,O Y gx,O Y gz,O Y wy,O Y ax,O Y az,O F g,O Y k,O Y xl,O Y xh,O Y zl,O Y zh] 113)).drew):=(((eR wr).alloc _).alloc _).drew;refine mj (i:=7) fun K hK=>?_;refine Bv (T:=113) (t:=87) (z:=H iq) (k:=15) (bytes:=144) (v:=Z wa wn wc) (base:=w5.heap.size) Wu rfl dM dM Tryz.underlying87 rfl _ _ rfl rfl (cs:=((js.take i).filter fun j=>Nf ⟨sk,y,l,x,step,L,b⟩ j.1).map jc) (s.o.ext hA) (ad:=⟨wr.heap.size+1,0,X⟩) (m:=1) (c:=1) rfl [(#[.string nm,Z va vn vc,O Y d,O Y de,O Y gx,O Y gz,O Y wy,O Y ax,O Y az,O F g,O Y k,O Y xl,O Y xh,O Y zl,O Y zh]:Array M).toList] rfl sM (fun j u hj=>by have:=Wn (wr.alloc (I #[.string nm,Z va vn vc,O Y d,O Y de,O Y gx,O Y gz,O Y wy,O Y ax,O Y az,O F g,O Y k,O Y xl,O Y xh,O Y zl,O Y zh] 113)) #[.string nm,Z va vn vc,O Y d,O Y de,O Y gx,O Y gz,O Y wy,O Y ax,O Y az,O F g,O Y k,O Y xl,O Y xh,O Y zl,O Y zh] 113 j u hj;rw[wZ]at this;exact this) (by simp[Value.oneCell']) (by have h7:=List.length_filter_le (fun j:JS×M=>Nf ⟨sk,y,l,x,step,L,b⟩ j.1) (js.take i);rw[List.length_take]at h7;rw[lL];omega) (by have:=hA.size;omega) ?_;intro v' w9 r n aF;obtain⟨a9,n9,c9,rfl⟩:=r.i;refine kO hK (fun _=>Ea.grown f n (fun q hq e=>?_)) (fun f=>?_)
     ·have h9:=R.o _ e.symm;simp at hq;rcases hq with rfl|rfl|rfl|rfl|rfl|rfl|rfl|rfl|rfl|rfl|rfl|rfl|rfl|rfl|rfl|rfl|rfl<;>(dsimp only at h9;omega)
     clear hK K;have f:=f rfl;refine sN 8 ?_
     (iterate 2 refine Nm ?_);refine oN ?_;have ac:=Ah n (hA.e ag.o) (fun e=>by have:=(R.o _ e.symm).1;omega);have n1:=Da ac (i:=9) (u:=Z wa wn wc) rfl;have nf:=Za ac;refine mj (i:=10) fun K hK=>?_;go_simp;refine kO hK (fun h=>nomatch h) (fun f=>?_);clear hK K;refine rh kM ?_ _;unfold NQ
     gi_wp2
     refine Handed.intro (n5-(i+1)) (by have:=Hn.o;omega) (hJ _ _ _ ⟨?rel,rfl,rfl,rfl,rfl,rfl,rfl⟩)
     case rel =>
      refine⟨i+1,Z a9 n9 c9,by have:=Hn.o;omega,by show (_:M)=_;go_num,by rw[Hn.o],uk (Lk ai.o ((Below.mono hA ah).trans (Yg (base:=w5.heap.size) n (nT ah hA.size) (fun k hk=>(R.o k hk).1)))) 9 _,Kk ac 9 _,?_⟩;rw[am.o,if_pos trivial,List.map_append];exact r.setOther (fun e=>by have:=(r.lt _ e).1;dsimp only at this;omega) _
    |false=>
     rw[q1,Bool.false_or]at af
     gi_wp2
     refine pw (fun i=>decide (9<i)) (Ea [(⟨sb+1,0,X⟩,N (V ⟨sb,0,X⟩)),(⟨sb,9,X⟩,Z wa wn wc),(⟨wr.heap.size,0,X⟩,.string nm),(⟨wr.heap.size,1,X⟩,Z va vn vc),(⟨wr.heap.size,2,X⟩,O Y d),(⟨wr.heap.size,3,X⟩,O Y de),(⟨wr.heap.size,4,X⟩,O Y gx),(⟨wr.heap.size,5,X⟩,O Y gz),(⟨wr.heap.size,6,X⟩,O Y wy),(⟨wr.heap.size,7,X⟩,O Y ax),(⟨wr.heap.size,8,X⟩,O Y az),(⟨wr.heap.size,9,X⟩,O F g),(⟨wr.heap.size,10,X⟩,O Y k),(⟨wr.heap.size,11,X⟩,O Y xl),(⟨wr.heap.size,12,X⟩,O Y xh),(⟨wr.heap.size,13,X⟩,O Y zl),(⟨wr.heap.size,14,X⟩,O Y zh)]) kM ?_ (fun f=>?_)
     ·exact cA
     refine sN 0 ?_
     (iterate 6 refine Nm ?_);refine oN ?_;refine mj (i:=6) fun K hK=>?_;go_simp;refine kO hK (fun _=>cE f ((eR _).alloc _)) (fun f=>?_);clear hK K;have f:=f rfl;have hA:Ba wr (((wr.alloc (I #[.string nm,Z va vn vc,O Y d,O Y de,O Y gx,O Y gz,O Y wy,O Y ax,O Y az,O F g,O Y k,O Y xl,O Y xh,O Y zl,O Y zh] 113)).alloc (I #[.string nm,Z va vn vc,O Y d,O Y de,O Y gx,O Y gz,O Y wy,O Y ax,O Y az,O F g,O Y k,O Y xl,O Y xh,O Y zl,O Y zh] 113)).drew):=(((eR wr).alloc _).alloc _).drew;refine mj (i:=7) fun K hK=>?_;refine Bv (T:=113) (t:=87) (z:=H iq) (k:=15) (bytes:=144) (v:=Z wa wn wc) (base:=w5.heap.size) Wu rfl dM dM Tryz.underlying87 rfl _ _ rfl rfl (cs:=((js.take i).filter fun j=>Nf ⟨sk,y,l,x,step,L,b⟩ j.1).map jc) (s.o.ext hA) (ad:=⟨wr.heap.size+1,0,X⟩) (m:=1) (c:=1) rfl [(#[.string nm,Z va vn vc,O Y d,O Y de,O Y gx,O Y gz,O Y wy,O Y ax,O Y az,O F g,O Y k,O Y xl,O Y xh,O Y zl,O Y zh]:Array M).toList] rfl sM (fun j u hj=>by have:=Wn (wr.alloc (I #[.string nm,Z va vn vc,O Y d,O Y de,O Y gx,O Y gz,O Y wy,O Y ax,O Y az,O F g,O Y k,O Y xl,O Y xh,O Y zl,O Y zh] 113)) #[.string nm,Z va vn vc,O Y d,O Y de,O Y gx,O Y gz,O Y wy,O Y ax,O Y az,O F g,O Y k,O Y xl,O Y xh,O Y zl,O Y zh] 113 j u hj;rw[wZ]at this;exact this) (by simp[Value.oneCell']) (by have h7:=List.length_filter_le (fun j:JS×M=>Nf ⟨sk,y,l,x,step,L,b⟩ j.1) (js.take i);rw[List.length_take]at h7;rw[lL];omega) (by have:=hA.size;omega) ?_;intro v' w9 r n aF;obtain⟨a9,n9,c9,rfl⟩:=r.i;refine kO hK (fun _=>Ea.grown f n (fun q hq e=>?_)) (fun f=>?_)
     ·have h9:=R.o _ e.symm;simp at hq;rcases hq with rfl|rfl|rfl|rfl|rfl|rfl|rfl|rfl|rfl|rfl|rfl|rfl|rfl|rfl|rfl|rfl|rfl<;>(dsimp only at h9;omega)
     clear hK K;have f:=f rfl;refine sN 8 ?_
     (iterate 2 refine Nm ?_);refine oN ?_;have ac:=Ah n (hA.e ag.o) (fun e=>by have:=(R.o _ e.symm).1;omega);have n1:=Da ac (i:=9) (u:=Z wa wn wc) rfl;have nf:=Za ac;refine mj (i:=10) fun K hK=>?_;go_simp;refine kO hK (fun h=>nomatch h) (fun f=>?_);clear hK K;refine rh kM ?_ _;unfold NQ
     gi_wp2
     refine Handed.intro (n5-(i+1)) (by have:=Hn.o;omega) (hJ _ _ _ ⟨?rel,rfl,rfl,rfl,rfl,rfl,rfl⟩)
     case rel =>
      refine⟨i+1,Z a9 n9 c9,by have:=Hn.o;omega,by show (_:M)=_;go_num,by rw[Hn.o],uk (Lk ai.o ((Below.mono hA ah).trans (Yg (base:=w5.heap.size) n (nT ah hA.size) (fun k hk=>(R.o k hk).1)))) 9 _,Kk ac 9 _,?_⟩;rw[am.o,if_pos trivial,List.map_append];exact r.setOther (fun e=>by have:=(r.lt _ e).1;dsimp only at this;omega) _
  ·obtain rfl:i=n5:=oM;have e:js.take i=js:=lT (by rw[Hn.o];exact nE _);rw[e]at ab;have s:=Aa ab;clear ab ae aw au av e
   gi_wp2
   exact HQ.o _ _ _ ⟨rfl,rfl,rfl,rfl,rfl,rfl⟩ ai.o ag.o s.o
def SN(Q:Exit->Act->C->Prop)(w w6 W0:C)(sb ba:Nat)(sk x f s step y b:Int)(ga:Option G)(gn gc:Nat)(pa:Option G)(pn ax:Nat)(bk o wn wc:Nat)(ks:List (JS×M))(ps:List Pl)(b2 b3 bl bm bn:M)(pre:List Jt)(af:ByteArray)(ag:LP)(dA ab ac ae ah L R n kA ai d l g:Int)(aU:Option G)(aW aV:Nat)(bf:Fe w6 (Z (V ⟨bk,o,X⟩) wn wc) ks)(ck:wn<=120)(bx:∀j∈ks,∃w',Ja w' j.2 j.1.p.shape)(bw:∀j∈ks,j.1∈Me ps)(bE:∀p∈ps,Ia p=true)(bC:⟨⟨af,ag,dA,ab,ac,ae,ah,L,R,n⟩,kA,(ai,d),l,g⟩∈Me ps)(bt:w6.heap[sb]?=V (I (pj ⟨sk,x,f,s,step,y,b⟩ (Z ga gn gc) (Z pa pn ax) (Z (V ⟨bk,o,X⟩) wn wc) b2 b3) 89 (0,0)))(bj:w6.heap[sb+1]?=V (I #[N (V ⟨sb,0,X⟩)] 84 (0,0)))(a7:w6.heap[w.heap.size+1]?=V (I #[O F sk,O Y x,O Y f,O Y s,O Y step,O Y y,O Y b] 32 (0,0)))(cu:w.heap.size+1<sb)(cs:w6.heap.size<=ba)(a6:pre.length<=14400)(a0:Act)(bu:uA (w.heap.size+1) sb ba bl bm bn (V ⟨bk,o,X⟩) wn wc a0)(h0:Bw w6 sb ⟨sk,x,f,s,step,y,b⟩ (Z ga gn gc) (Z pa pn ax) (Z (V ⟨bk,o,X⟩) wn wc) ks pre (⟨⟨af,ag,dA,ab,ac,ae,ah,L,R,n⟩,kA,(ai,d),l,g⟩,Z aU aW aV) ba wn (a0.tmps.getD 78 undef) W0)(hQ:∀a W vj,uA (w.heap.size+1) sb ba bl bm bn (V ⟨bk,o,X⟩) wn wc a->w6.grownBy W (V sb)->W.heap[sb]?=V (I (pj ⟨sk,x,f,s,step,y,b⟩ (Z ga gn gc) (Z pa pn ax) (Z (V ⟨bk,o,X⟩) wn wc) vj (Z X 0 0)) 89 (0,0)) ->Fa 82 6 W w6.heap.size vj ((pre++Qg ⟨sk,x,f,s,step,y,b⟩ (ks.map Prod.fst) ⟨⟨af,ag,dA,ab,ac,ae,ah,L,R,n⟩,kA,(ai,d),l,g⟩).map Sg)->Q (.exit 4) a W):(Code.loop (Qc Tryz.f38 2)).wpIn Fence.wide 5 Tryz.prog Q a0 W0:=by
 have b4:=Ya bj;have b5:w.heap.size+1<w6.heap.size:=oM;have am:=Aa bf.len.symm;have bK:=Aa bf;have bM:=Aa (fun j hj=>bx j hj);have bL:=Aa (fun j hj=>bw j hj);have bo:=Aa bE;have bN:=Aa bC;have bJ:=Aa bt;have bO:=Aa bj;have bq:=Aa a7;have bp:=Aa a6;have HQ:=Aa hQ;clear bf bx bw bE bC bt bj a7 a6 hQ;unfold Qc;simp only[Tryz.f38,Qb,List.cons_append,List.nil_append,List.append_nil,List.getD_cons_succ,List.getD_cons_zero];refine wpIn_loop_ghost_k (fun gk a W=>Bw w6 sb ⟨sk,x,f,s,step,y,b⟩ (Z ga gn gc) (Z pa pn ax) (Z (V ⟨bk,o,X⟩) wn wc) ks pre (⟨⟨af,ag,dA,ab,ac,ae,ah,L,R,n⟩,kA,(ai,d),l,g⟩,Z aU aW aV) ba gk (a.tmps.getD 78 undef) W/\uA (w.heap.size+1) sb ba bl bm bn (V ⟨bk,o,X⟩) wn wc a) wn ⟨h0,bu⟩ ?round
 case round =>
  clear h0 bu;intro gk aa wr hinv;obtain⟨tt,dd⟩:=aa;obtain⟨⟨j,cr,hj,a4,rfl,ao,ar,an,al⟩,f1,f3,f8,aX,aY,aZ,a1,a2,a3,fd⟩:=hinv;dsimp only at f1 f3 f8 aX aY aZ a1 a2 a3 fd a4;subst fd;obtain⟨u,hu,ht⟩:=Jg tt 196 f1;simp only[hu]at f3 f8 aX aY aZ a1 a2 a3 a4;clear hu;subst ht;simp only[List.range,List.range.loop,List.map_cons,List.map_nil,f3,f8,aX,aY,aZ,a1,a2,a3,a4];clear f1 f3 f8 aX aY aZ a1 a2 a3 a4;intro J K hJ hK;obtain⟨qa,qn,qc,rfl⟩:=al.i;rw[am.o]at hj;have aR:=ao.size;have bi:=(ao.block (sb+1) b4 sM).trans bO.o;have aQ:=(ao.block (w.heap.size+1) b5 (by simp;omega)).trans bq.o;have b1:=Da bi (i:=0) (u:=N (V ⟨sb,0,X⟩)) rfl;have cv:sb+1<wr.heap.size:=oM;have cx:sb<wr.heap.size:=oM;have cy:w.heap.size+1<wr.heap.size:=oM;have cz:=Ya an;have cB:sb+1<wr.heap.size+1:=oM;have cC:sb<wr.heap.size+1:=oM;have cD:w.heap.size+1<wr.heap.size+1:=oM;have cF:ba<wr.heap.size+1:=oM;by_cases bz:j<wn
  ·obtain⟨⟨⟨⟨aF,aS,dB,aA,aB,aC,aG,ay,az,aq⟩,kB,⟨r,aH⟩,ak,aj⟩,vB⟩,aK⟩:∃q,ks[j]?=V q:=⟨ks[j]'(by rw[am.o];omega),by simp[am.o,bz]⟩;obtain⟨bG,bI,bH,bF⟩:=(bM.o _ (lM aK)).elim fun _ h=>Ma h;dsimp only at bF;subst bF;have bg:=bK.o.keep (Cm ao bJ.o dM);obtain⟨cm,o',e0,cn,hc⟩:=bg.at' aK;cases e0;unfold qh at hc;dsimp only at hc;have bs:=hc 0 (.string aF) rfl;have ca:=hc 1 (Z bG bI bH) rfl;have cb:=hc 2 (O Y dB) rfl;have cc:=hc 3 (O Y aA) rfl;have cd:=hc 4 (O Y aB) rfl;have ce:=hc 5 (O Y aC) rfl;have cf:=hc 6 (O Y aG) rfl;have cg:=hc 7 (O Y ay) rfl;have ch:=hc 8 (O Y az) rfl;have ci:=hc 9 (O F aq) rfl;have bV:=hc 10 (O Y kB) rfl;have bW:=hc 11 (O Y r) rfl;have bX:=hc 12 (O Y aH) rfl;have bY:=hc 13 (O Y ak) rfl;have bZ:=hc 14 (O Y aj) rfl;simp only[Nat.add_zero]at bs;have bD:=bL.o _ (lM aK);have bA:=Tq bo.o bN.o;have bB:=Tq bo.o bD;dsimp only[Bd]at bA bB;have d1:-9223372036854775808<=r-d:=oM;have d2:r-d<=9223372036854775807:=oM;have HF:=Aa (fun(W':C)(aT:M)(ht:aT=O Y ((j+1:Nat):Int))(hE:Ba wr W')(hf:Ed ⟨sk,x,f,s,step,y,b⟩ (ks.map Prod.fst) ⟨⟨af,ag,dA,ab,ac,ae,ah,L,R,n⟩,kA,(ai,d),l,g⟩ ⟨⟨aF,aS,dB,aA,aB,aC,aG,ay,az,aq⟩,kB,(r,aH),ak,aj⟩=false) =>
    (show Bw w6 sb ⟨sk,x,f,s,step,y,b⟩ (Z ga gn gc) (Z pa pn ax) (Z (V ⟨bk,o,X⟩) wn wc) ks pre (⟨⟨af,ag,dA,ab,ac,ae,ah,L,R,n⟩,kA,(ai,d),l,g⟩,Z aU aW aV) ba (wn-(j+1)) aT W'
    from⟨j+1,Z qa qn qc,by have:=am.o;omega,ht,by rw[am.o],Lk ao (Below.mono hE aR),hE.e ar,hE.e an,by
     have e:((ks.take (j+1)).map Prod.fst).filter (Ed ⟨sk,x,f,s,step,y,b⟩ (ks.map Prod.fst) ⟨⟨af,ag,dA,ab,ac,ae,ah,L,R,n⟩,kA,(ai,d),l,g⟩)=((ks.take j).map Prod.fst).filter (Ed ⟨sk,x,f,s,step,y,b⟩ (ks.map Prod.fst) ⟨⟨af,ag,dA,ab,ac,ae,ah,L,R,n⟩,kA,(ai,d),l,g⟩):=by
      rw[Ce _ _ _ aK,List.map_append,List.filter_append];simp[hf]
     dsimp only;rw[e];exact al.ext hE⟩))
   have HT:=Aa (fun(W':C)(aT v':M)(ht:aT=O Y ((j+1:Nat):Int))(hf:Ed ⟨sk,x,f,s,step,y,b⟩ (ks.map Prod.fst) ⟨⟨af,ag,dA,ab,ac,ae,ah,L,R,n⟩,kA,(ai,d),l,g⟩ ⟨⟨aF,aS,dB,aA,aB,aC,aG,ay,az,aq⟩,kB,(r,aH),ak,aj⟩=true)
    (q1:w6.grownBy W' (V sb)) (q2:W'.heap[sb]?=V (I (pj ⟨sk,x,f,s,step,y,b⟩ (Z ga gn gc) (Z pa pn ax) (Z (V ⟨bk,o,X⟩) wn wc) v' (Z X 0 0)) 89 (0,0))) (q3:W'.heap[ba]?=V (I (qh (⟨⟨af,ag,dA,ab,ac,ae,ah,L,R,n⟩,kA,(ai,d),l,g⟩,Z aU aW aV)) 113 (0,0)))
    (h:Fa 82 6 W' w6.heap.size v' (((pre++(((ks.take j).map Prod.fst).filter (Ed ⟨sk,x,f,s,step,y,b⟩ (ks.map Prod.fst) ⟨⟨af,ag,dA,ab,ac,ae,ah,L,R,n⟩,kA,(ai,d),l,g⟩)).map (pe ⟨⟨af,ag,dA,ab,ac,ae,ah,L,R,n⟩,kA,(ai,d),l,g⟩)).map Sg)++[(#[O Y kA,O Y kB,O Y d,O Y r,O Y (max l ak),O Y (min g aj)]:Array M).toList])) =>
    (show Bw w6 sb ⟨sk,x,f,s,step,y,b⟩ (Z ga gn gc) (Z pa pn ax) (Z (V ⟨bk,o,X⟩) wn wc) ks pre (⟨⟨af,ag,dA,ab,ac,ae,ah,L,R,n⟩,kA,(ai,d),l,g⟩,Z aU aW aV) ba (wn-(j+1)) aT W'
    from⟨j+1,v',by have:=am.o;omega,ht,by rw[am.o],q1,q2,q3,by
     have e:((ks.take (j+1)).map Prod.fst).filter (Ed ⟨sk,x,f,s,step,y,b⟩ (ks.map Prod.fst) ⟨⟨af,ag,dA,ab,ac,ae,ah,L,R,n⟩,kA,(ai,d),l,g⟩)=((ks.take j).map Prod.fst).filter (Ed ⟨sk,x,f,s,step,y,b⟩ (ks.map Prod.fst) ⟨⟨af,ag,dA,ab,ac,ae,ah,L,R,n⟩,kA,(ai,d),l,g⟩)++[⟨⟨aF,aS,dB,aA,aB,aC,aG,ay,az,aq⟩,kB,(r,aH),ak,aj⟩]:=by
      rw[Ce _ _ _ aK,List.map_append,List.filter_append];simp[hf]
     dsimp only;rw[e];simp only[List.map_append,<-List.append_assoc,List.map_cons,List.map_nil]at h ⊢;exact h⟩))
   have bh:Ed ⟨sk,x,f,s,step,y,b⟩ (ks.map Prod.fst) ⟨⟨af,ag,dA,ab,ac,ae,ah,L,R,n⟩,kA,(ai,d),l,g⟩ ⟨⟨aF,aS,dB,aA,aB,aC,aG,ay,az,aq⟩,kB,(r,aH),ak,aj⟩=((kA != kB)&&(decide (d<=r)&&(decide (r-d<=f)&&(decide (max l ak<min g aj)&&!Td (ks.map Prod.fst) ⟨kA,kB,d,r,max l ak,min g aj⟩)))):=rfl;have au:=Aa (fun(W:C)(hE:Ba wr W)=>FR W sb ⟨sk,x,f,s,step,y,b⟩ (Z ga gn gc) (Z pa pn ax) (Z (V ⟨bk,o,X⟩) wn wc) (Z qa qn qc) (Z X 0 0) ks ⟨kA,kB,d,r,max l ak,min g aj⟩ (hE.e ar) (bg.f hE));obtain⟨fb,bv⟩:=gX (Td (ks.map Prod.fst) ⟨kA,kB,d,r,max l ak,min g aj⟩);rw[bv]at au bh;unfold ij at au;dsimp only at au;have b6:=Da an (i:=10) (u:=O Y kA) rfl;have b7:=Da an (i:=12) (u:=O Y d) rfl;have b8:=Da an (i:=13) (u:=O Y l) rfl;have b9:=Da an (i:=14) (u:=O Y g) rfl;have cp:=Da aQ (i:=2) (u:=O Y f) rfl;have aJ:=Aa bh;have aM:=Aa ao;have aI:=Aa ar;have a5:=Aa an;have ap:=Aa al;clear hc aK bg ao ar an al bh bv bD bA bB bi aQ;by_cases c1:kA=kB
   ·(have br:(kA != kB)=false:=by simp[c1]);have C1:=Aa c1;clear c1
    gi_wp2_with(first|(refine⟨trivial,?_⟩;gi_at_call 75;(refine(callsIn_wide.2 (au.o _ ?_)).mono ?_);exact eA;rintro e w7 ⟨rfl,aL⟩)|(refine⟨trivial,?_⟩))
    refine Handed.intro (wn-(j+1)) (by have:=am.o;omega) (hJ _ _ _ ⟨?rel,rfl,rfl,rfl,rfl,rfl,rfl,rfl,rfl,rfl,rfl⟩)
    case rel=>exact HF.o _ _ (by show (_:M)=_;go_num) eA (by rw[aJ.o,br,Bool.false_and])
   have br:(kA != kB)=true:=by simpa using c1
   by_cases c2:d<=r;rotate_left 1
   ·have bQ:¬d<=r:=c2
    gi_wp2_with(first|(refine⟨trivial,?_⟩;gi_at_call 75;(refine(callsIn_wide.2 (au.o _ ?_)).mono ?_);exact eA;rintro e w7 ⟨rfl,aL⟩)|(refine⟨trivial,?_⟩))
    refine Handed.intro (wn-(j+1)) (by have:=am.o;omega) (hJ _ _ _ ⟨?rel,rfl,rfl,rfl,rfl,rfl,rfl,rfl,rfl,rfl,rfl⟩)
    case rel=>exact HF.o _ _ (by show (_:M)=_;go_num) eA (by rw[aJ.o];simp only[decide_eq_false (Int.not_le.2 bQ),Bool.false_and,Bool.and_false])
   by_cases c3:r-d<=f;rotate_left 1
   ·have bT:¬r-d<=f:=c3
    gi_wp2_with(first|(refine⟨trivial,?_⟩;gi_at_call 75;(refine(callsIn_wide.2 (au.o _ ?_)).mono ?_);exact eA;rintro e w7 ⟨rfl,aL⟩)|(refine⟨trivial,?_⟩))
    refine Handed.intro (wn-(j+1)) (by have:=am.o;omega) (hJ _ _ _ ⟨?rel,rfl,rfl,rfl,rfl,rfl,rfl,rfl,rfl,rfl,rfl⟩)
    case rel=>exact HF.o _ _ (by show (_:M)=_;go_num) eA (by rw[aJ.o];simp only[decide_eq_false (Int.not_le.2 bT),Bool.false_and,Bool.and_false])
   by_cases c4:max l ak<min g aj;rotate_left 1
   ·have bU:¬max l ak<min g aj:=c4
    gi_wp2_with(first|(refine⟨trivial,?_⟩;gi_at_call 75;(refine(callsIn_wide.2 (au.o _ ?_)).mono ?_);exact eA;rintro e w7 ⟨rfl,aL⟩)|(refine⟨trivial,?_⟩))
    refine Handed.intro (wn-(j+1)) (by have:=am.o;omega) (hJ _ _ _ ⟨?rel,rfl,rfl,rfl,rfl,rfl,rfl,rfl,rfl,rfl,rfl⟩)
    case rel=>exact HF.o _ _ (by show (_:M)=_;go_num) eA (by rw[aJ.o];simp only[decide_eq_false (Int.not_lt.2 bU),Bool.false_and,Bool.and_false])
   cases fb with
   |true=>
    gi_wp2_with(first|(refine⟨trivial,?_⟩;gi_at_call 75;(refine(callsIn_wide.2 (au.o _ ?_)).mono ?_);exact eA;rintro e w7 ⟨rfl,aL⟩)|(refine⟨trivial,?_⟩))
    refine Handed.intro (wn-(j+1)) (by have:=am.o;omega) (hJ _ _ _ ⟨?rel,rfl,rfl,rfl,rfl,rfl,rfl,rfl,rfl,rfl,rfl⟩)
    case rel=>exact HF.o _ _ (by show (_:M)=_;go_num) eA (by rw[aJ.o];simp only[Bool.not_true,Bool.and_false])
   |false=>
    (have aP:Ed ⟨sk,x,f,s,step,y,b⟩ (ks.map Prod.fst) ⟨⟨af,ag,dA,ab,ac,ae,ah,L,R,n⟩,kA,(ai,d),l,g⟩ ⟨⟨aF,aS,dB,aA,aB,aC,aG,ay,az,aq⟩,kB,(r,aH),ak,aj⟩=true:=by rw[aJ.o,decide_eq_true c4];simp[c1,c2,c3]);have bb:=Aa aP;clear aP;have aO:=Aa (fun j (h:(Value.slice qa qn qc).ownBlock=V j)=>ap.o.lt j h);have bP:=Aa (show (((pre++(((ks.take j).map Prod.fst).filter (Ed ⟨sk,x,f,s,step,y,b⟩ (ks.map Prod.fst) ⟨⟨af,ag,dA,ab,ac,ae,ah,L,R,n⟩,kA,(ai,d),l,g⟩)).map (pe ⟨⟨af,ag,dA,ab,ac,ae,ah,L,R,n⟩,kA,(ai,d),l,g⟩)).map Sg)).length<=1000000 by
     have l2:=List.length_filter_le (Ed ⟨sk,x,f,s,step,y,b⟩ (ks.map Prod.fst) ⟨⟨af,ag,dA,ab,ac,ae,ah,L,R,n⟩,kA,(ai,d),l,g⟩) ((ks.take j).map Prod.fst);rw[lL,List.length_take]at l2;rw[lL,lA,lL];have:=bp.o;omega)
    gi_wp2_with(refine⟨trivial,?_⟩;gi_at_call 75;(refine(callsIn_wide.2 (au.o _ ?_)).mono ?_);exact eA;rintro e w7 ⟨rfl,aL⟩)
    have bc:Ba wr w7:=eA;have aD:=aL.e (Ms wr (I #[.string aF,Z bG bI bH,O Y dB,O Y aA,O Y aB,O Y aC,O Y aG,O Y ay,O Y az,O F aq,O Y kB,O Y r,O Y aH,O Y ak,O Y aj] 113) (I #[O Y kA,O Y kB,O Y d,O Y r,O Y (max l ak),O Y (min g aj)] 82));have j0:=Da aD (i:=0) (u:=O Y kA) rfl;have j1:=Da aD (i:=1) (u:=O Y kB) rfl;have j2:=Da aD (i:=2) (u:=O Y d) rfl;have j3:=Da aD (i:=3) (u:=O Y r) rfl;have j4:=Da aD (i:=4) (u:=O Y (max l ak)) rfl;have j5:=Da aD (i:=5) (u:=O Y (min g aj)) rfl;have ct:=Ya aD;have a8:=bc.e aI.o;have co:=bc.d b1;have cq:=Da a8 (i:=10) (u:=Z qa qn qc) rfl;have cl:=Ya a8;refine pw (fun i=>decide (9<i)) (Ea [(⟨sb+1,0,X⟩,N (V ⟨sb,0,X⟩)),(⟨sb,10,X⟩,Z qa qn qc),(⟨wr.heap.size+1,0,X⟩,O Y kA),(⟨wr.heap.size+1,1,X⟩,O Y kB),(⟨wr.heap.size+1,2,X⟩,O Y d),(⟨wr.heap.size+1,3,X⟩,O Y r),(⟨wr.heap.size+1,4,X⟩,O Y (max l ak)),(⟨wr.heap.size+1,5,X⟩,O Y (min g aj))]) kM ?_ (fun av=>?_)
    ·exact cA
    refine sN 0 ?_
    (iterate 6 refine Nm ?_);refine oN ?_;refine mj (i:=6) fun K hK=>?_;go_simp;refine kO hK (fun _=>cE av ((eR _).alloc _)) (fun av=>?_);clear hK K;have av:=av rfl;have hA:Ba wr ((w7.alloc (I #[O Y kA,O Y kB,O Y d,O Y r,O Y (max l ak),O Y (min g aj)] 82)).drew):=(bc.alloc _).drew;refine mj (i:=7) fun K hK=>?_;refine Bv (T:=82) (t:=33) (z:=H #[O Y 0,O Y 0,O Y 0,O Y 0,O Y 0,O Y 0]) (k:=6) (bytes:=48) (v:=Z qa qn qc) (base:=w6.heap.size) JJ rfl dM dM Tryz.underlying33 rfl _ _ rfl rfl (ap.o.ext hA) (ad:=⟨w7.heap.size,0,X⟩) (m:=1) (c:=1) rfl [(#[O Y kA,O Y kB,O Y d,O Y r,O Y (max l ak),O Y (min g aj)]:Array M).toList] rfl sM (by exact Wn w7 #[O Y kA,O Y kB,O Y d,O Y r,O Y (max l ak),O Y (min g aj)] 82) (by simp[Value.oneCell']) (by have:=bP.o;omega) (by have:=hA.size;omega) ?_;intro v' w9 aE aw cj;obtain⟨a9,n9,c9,rfl⟩:=aE.i;refine kO hK (fun _=>Ea.grown av aw (fun q hq e=>?_)) (fun av=>?_)
    ·have h9:=aO.o _ e.symm;simp at hq;rcases hq with rfl|rfl|rfl|rfl|rfl|rfl|rfl|rfl<;>(dsimp only at h9;omega)
    clear hK K;have av:=av rfl;refine sN 8 ?_
    (iterate 2 refine Nm ?_);refine oN ?_;have be:=Ah aw (hA.e aI.o) (fun e=>by have:=(aO.o _ e.symm).1;omega);have b0:=Ah aw (hA.e a5.o) (fun e=>(ap.o.ne_blk a5.o dM) e.symm);have n1:=Da be (i:=10) (u:=Z qa qn qc) rfl;have nf:=Za be;refine mj (i:=10) fun K hK=>?_;go_simp;refine kO hK (fun h=>nomatch h) (fun av=>?_);clear hK K;refine rh kM ?_ _;unfold NQ
    gi_wp2
    refine Handed.intro (wn-(j+1)) (by have:=am.o;omega) (hJ _ _ _ ⟨?rel,rfl,rfl,rfl,rfl,rfl,rfl,rfl,rfl,rfl,rfl⟩)
    case rel =>
     refine HT.o _ _ (Z a9 n9 c9) (by show (_:M)=_;go_num) bb.o (uk (Lk aM.o ((Below.mono hA aR).trans (Yg (base:=w6.heap.size) aw (nT aR hA.size) (fun k hk=>(aO.o k hk).1)))) 10 _) (Kk be 10 _) ?_ (aE.setOther (fun e=>by have:=(aE.lt _ e).1;dsimp only at this;omega) _);rw[bS _ _ _ _ dO];exact b0
  ·obtain rfl:wn=j:=oM;have e:ks.take wn=ks:=lT (by rw[am.o];exact nE _);rw[e]at al;have aM:=Aa ao;have aI:=Aa ar;have ap:=Aa al;clear e ao ar al an bi aQ
   gi_wp2
   exact HQ.o _ _ _ ⟨rfl,rfl,rfl,rfl,rfl,rfl,rfl,rfl,rfl,rfl⟩ aM.o aI.o ap.o
def RN(Q:Exit->Act->C->Prop)(w7:C)(sb:Nat)(sk w d p step R b:Int)(ga:Option G)(gn gc:Nat)(pa:Option G)(pn ay:Nat)(wa:Option G)(wn wc:Nat)(qa:Option G)(qn qc:Nat)(L:List Jt)(aF:Re w7 (Z qa qn qc) L)(bu:qn<=14400)(aP:∀j∈L,Ri j)(aQ:w7.heap[sb]?=V (I (pj ⟨sk,w,d,p,step,R,b⟩ (Z ga gn gc) (Z pa pn ay) (Z wa wn wc) (Z qa qn qc) (Z X 0 0)) 89 (0,0)))(aH:w7.heap[sb+1]?=V (I #[N (V ⟨sb,0,X⟩)] 84 (0,0)))(a0:Act)(be:a0.tmps.size=196/\a0.tmps.getD 8 undef=N (V ⟨sb+1,0,X⟩)/\a0.tmps.getD 162 undef=Z qa qn qc/\a0.tmps.getD 163 undef=O Y qn)(bh:a0.tmps.getD 164 undef=O Y (0:Nat))(bg:a0.defers=Sk [])(hQ:∀a W vr Ds,(a.tmps.size=196/\a.tmps.getD 8 undef=N (V ⟨sb+1,0,X⟩))->a.defers=Sk Ds->w7.grownBy W (V sb)->W.heap[sb]?=V (I (pj ⟨sk,w,d,p,step,R,b⟩ (Z ga gn gc) (Z pa pn ay) (Z wa wn wc) (Z qa qn qc) vr) 89 (0,0)) ->Fa 3 1 W w7.heap.size vr ((Pc ⟨sk,w,d,p,step,R,b⟩ L L.length).map ic)->Xc W Ds->(∀D∈Ds,w7.heap.size<=D)->Q (.exit 6) a W):(Code.loop (Qc Tryz.f38 3)).wpIn Fence.wide 5 Tryz.prog Q a0 w7:=by
 have bs:=Ya aH;have af:=Aa aF.len.symm;have a1:=Aa aF;have aZ:=Aa aP;have az:=Aa aQ;have a4:=Aa aH;have HQ:=Aa hQ;clear aF aP aQ aH hQ;unfold Qc;simp only[Tryz.f38,Qb,List.cons_append,List.nil_append,List.append_nil,List.getD_cons_succ,List.getD_cons_zero];refine wpIn_loop_ghost_k (DA w7 sb ⟨sk,w,d,p,step,R,b⟩ (Z ga gn gc) (Z pa pn ay) (Z wa wn wc) (Z qa qn qc) qa qn qc L) qn ?h0 ?round
 case h0=>exact⟨⟨0,_,[],by omega,bh,by rw[af.o];rfl,io _ _,az.o,by simpa[Pc] using Fa.nil _ _ _ _,bg,Xc.nil _,fun D hD=>by cases hD⟩,be⟩
 case round =>
  intro gk aa wr hinv;obtain⟨tt,dd⟩:=aa;obtain⟨⟨i,vr,Ds,hi,ak,rfl,ab,am,ac,aR,ax,av⟩,f1,f2,f3,f4⟩:=hinv;dsimp only at f1 f2 f3 f4 ak aR;subst aR;obtain⟨u,hu,ht⟩:=Jg tt 196 f1;simp only[hu]at f2 f3 f4 ak;clear hu;subst ht;simp only[List.range,List.range.loop,List.map_cons,List.map_nil,f2,f3,f4,ak];clear f1 f2 f3 f4 ak;intro J K hJ hK;rw[af.o]at hi;have aD:=ab.size;have aV:=(ab.block (sb+1) bs sM).trans a4.o;have aY:=Da aV (i:=0) (u:=N (V ⟨sb,0,X⟩)) rfl;have bC:sb+1<wr.heap.size:=oM;have bD:sb<wr.heap.size:=oM;have bE:sb+1<wr.heap.size+1:=oM;have bF:sb<wr.heap.size+1:=oM;have bG:sb+1<wr.heap.size+1+1:=oM;have bH:sb<wr.heap.size+1+1:=oM;obtain⟨ra,rn,rc,rfl⟩:=ac.i;by_cases aA:i<qn
  ·obtain⟨⟨ja,jb,jl,jr,jf,jt⟩,aI⟩:∃q,L[i]?=V q:=⟨L[i]'(by rw[af.o];omega),by simp[af.o,aA]⟩;have aG:=a1.o.keep (Cm ab az.o dM);obtain⟨bk,o,e0,hb,hc⟩:=aG.at' aI;subst e0;unfold ij at hc;dsimp only at hc;have aO:=hc 0 (O Y ja) rfl;have a6:=hc 1 (O Y jb) rfl;have a7:=hc 2 (O Y jl) rfl;have a8:=hc 3 (O Y jr) rfl;have ba:=hc 4 (O Y jf) rfl;have bb:=hc 5 (O Y jt) rfl;simp only[Nat.add_zero]at aO;have a5:=Aa aI;have a2:=Aa aG;have an:=Aa ab;have ae:=Aa am;have f:=Aa ac;have ar:=Aa ax;have aE:=Aa av;clear hc aI aG ab am ac ax av
   gi_wp2_with(refine⟨trivial,?_⟩;gi_at_call 47;refine(callsIn_wide.2 (VR _ sb i)).mono ?_;rintro e w' ⟨rfl,rfl⟩)
   obtain⟨W9,ah⟩:=gX (((((wr.alloc (I #[O Y ja,O Y jb,O Y jl,O Y jr,O Y jf,O Y jt] 82)).alloc (I #[O Y jf] 3)).alloc (I #[N (V ⟨sb,0,X⟩)] 84)).alloc (I #[O Y i] 3)));have aW:Ba wr W9:=by rw[<-ah];exact((((eR wr).alloc _).alloc _).alloc _).alloc _
   have bA:W9.heap.size=wr.heap.size+1+1+1+1:=by rw[<-ah];simp
   have bn:W9.heap[wr.heap.size+1]?=V (I #[O Y jf] 3 (0,0)):=by rw[<-ah];exact(((eR _).alloc _).alloc _).e (Ms wr _ _)
   have bf:W9.heap[wr.heap.size+1+1]?=V (I #[N (V ⟨sb,0,X⟩)] 84 (0,0)):=by rw[<-ah];exact((eR _).alloc _).e (kc _ _ _ sM)
   have bj:W9.heap[wr.heap.size+1+1+1]?=V (I #[O Y i] 3 (0,0)):=by rw[<-ah];exact kc _ _ _ sM
   rw[ah];clear ah aO a6 a7 a8 ba bb;refine wpIn_rangeFunc_ownH rfl dM (gf:=81) (lb:=#[N (V ⟨wr.heap.size+1+1+1,0,X⟩),N (V ⟨wr.heap.size+1+1,0,X⟩)]) rfl trivial (enters_of Tryz.func81 kM rfl)
    (PQ _ dM (wr.heap.size+1+1) wr W9 sb ⟨sk,w,d,p,step,R,b⟩ (Z ga gn gc) (Z pa pn ay) (Z wa wn wc) (Z (V ⟨bk,o,X⟩) qn qc) (Z ra rn rc) L i (by rw[af.o];exact aA) aZ.o ae.o a2.o bf bj aW) Mh.trans (Mh.put oM oM) (Below.refl _ _) (fun _=>rfl)
    (YG wr (Pc ⟨sk,w,d,p,step,R,b⟩ L i) jf i) (fun _ _ _=>False) (Ql (fun s W h=>by have:=h.2.1;omega) (fun s W W' h k=>⟨k.ext h.1 oM,nT h.2.1 k.size,k.heap h.2.2⟩)) (fun c=>Ql (fun s W h=>h.elim) (fun _ _ _ h _=>h.elim)) ⟨aW,by omega,bn⟩
    (fun x a' _=>Bu sb wr.heap.size x.1 a') (fun x a'=>ownFrom_pure _ (fun _=>Bu sb wr.heap.size x.1 a')) ?assign ?body ?done ?stop
   case assign =>
    rintro l pre x W K hI hK
    gi_wp2
    refine hK _ _ (KeepsFrom.refl _ _) (Mh.refl _ _ _) hI ⟨rfl,rfl,rfl,rfl,rfl⟩
   case stop =>
    rintro D c pre W hD bv hf hK;exact hf.elim
   case body =>
    rintro l pre x a' W hl ⟨rr,hr⟩ hI hA bz;obtain⟨tt,dd⟩:=a';obtain⟨g1,g2,g3,g4,g5⟩:=hA;dsimp only at g1 g2 g3 g4 g5;subst g5;obtain⟨v,hu,ht⟩:=Jg tt 196 g1;simp only[hu]at g2 g3 g4;clear hu;subst ht;simp only[List.range,List.range.loop,List.map_cons,List.map_nil,g2,g3,g4];clear g1 g2 g3 g4;obtain⟨x,aK⟩:=x;obtain⟨h1,h2,h3⟩:=hI;obtain⟨cur,ao⟩:=gX ((pre.map (·.1)).foldl (fun o y=>min o ((Pc ⟨sk,w,d,p,step,R,b⟩ L i).getD y 0)) jf);have ap:=ao;rw[ao]at h3;have aU:=f.o.is.f h1;obtain⟨q,hq⟩:∃q,(Pc ⟨sk,w,d,p,step,R,b⟩ L i)[x]?=V q:=⟨(Pc ⟨sk,w,d,p,step,R,b⟩ L i)[x]'(by rw[Dv];exact aK),by simp⟩;obtain⟨b',o',e',bw,dq⟩:=aU.at' hq;obtain⟨b2,o2,e2,bx,_⟩:=f.o.is.at' hq;subst e';cases e2;have bp:=h1.d aY;have aq:=h1.e ae.o;have br:=Da aq (i:=11) (u:=Z (V ⟨b',o',X⟩) rn rc) rfl;have bq:=Da h3 (i:=0) (u:=O Y cur) rfl;have bB:=Za h3;have bo:rn=i:=by
     have h8:=f.o.len;rw[lL,Dv]at h8;exact h8
    (have aT:(Pc ⟨sk,w,d,p,step,R,b⟩ L i).getD x 0=q:=by rw[gD,hq];rfl);have aC:((pre++[(⟨x,aK⟩:{x:Nat // x<i})]).map (fun y=>y.1)).foldl (fun o y=>min o ((Pc ⟨sk,w,d,p,step,R,b⟩ L i).getD y 0)) jf=min cur q:=by
     rw[List.map_append,List.foldl_append,ap];simp only[List.map_cons,List.map_nil,List.foldl_cons,List.foldl_nil,aT]
    have aM:=Aa aC;have zw:=h1.size;have p1:(0:Int)<=(x:Int):=oM;have p2:(x:Int)<(rn:Int):=oM;have p3:x<rn:=oM;have H3:=Aa h3;have H1:=Aa h1;have a3:=Aa (show ∀e∈[((⟨sb+1,0,X⟩:G),Value.pointer (V ⟨sb,0,X⟩)),(⟨sb,11,X⟩,Z (V ⟨b',o',X⟩) rn rc),(⟨b',o'+x,X⟩,O Y q)],(⟨wr.heap.size+1,0,X⟩:G).block≠e.1.block from fun e he h=>by
     simp at he;rcases he with rfl|rfl|rfl<;>(dsimp only at h;omega))
    clear ao ap aU hq aT aC bo h3
    gi_wp2
    refine Tp (S:=Ea [(⟨sb+1,0,X⟩,N (V ⟨sb,0,X⟩)),(⟨sb,11,X⟩,Z (V ⟨b',o',X⟩) rn rc),(⟨b',o'+x,X⟩,O Y q)]) kM kM ?_ (fun n=>?_)
    ·exact cA
    refine sN 1 ?_
    (iterate 7 refine ub ?_);refine oN ?_;refine ye (i:=0) fun K hK=>?_;go_simp;refine kO hK n (fun n=>?_);clear hK K;refine ye (i:=8) fun K hK=>?_;go_simp;refine kO hK n (fun n=>?_);clear hK K;refine ye (i:=9) fun K hK=>?_;go_simp;refine kO hK (Ea.set n a3.o _) (fun n=>?_);clear hK K;refine Tb ?_;unfold NQ;have X9:Ba wr W.drew:=H1.o.drew;have aS:YG wr (Pc ⟨sk,w,d,p,step,R,b⟩ L i) jf i (pre++[⟨x,aK⟩]) (W.drew.setCell ⟨wr.heap.size+1,0,X⟩ (O Y (min cur q))):=by
     refine⟨X9.set dO _,by simp only[Wf];exact h2,?_⟩;rw[aM.o];exact Kk (W:=W.drew) H3.o 0 (O Y (min cur q))
    have bm:Mh wr (wr.heap.size+1+1) W (W.drew.setCell ⟨wr.heap.size+1,0,X⟩ (O Y (min cur q))):=
     (((Mh.refl wr (wr.heap.size+1+1) W).ext ((eR W).drew) H1.o.size oM).set dO dO dO _)
    have bl:KeepsFrom W9.heap.size W (W.drew.setCell ⟨wr.heap.size+1,0,X⟩ (O Y (min cur q))):=(Ro ((eR W).drew)).trans ((KeepsOthers.setCell _ _ _).from _)
    gi_wp2
    exact⟨bl,bm,aS⟩
   case done =>
    rintro D ys W hD aX ⟨h1,h2,h3⟩ bc;rw[aX]at h3;obtain⟨rt,aJ⟩:=gX ((ik ⟨sk,w,d,p,step,R,b⟩ L i).foldl (fun o j=>min o ((Pc ⟨sk,w,d,p,step,R,b⟩ L i).getD j 0)) jf);rw[aJ]at h3;have bp:=h1.d aY;have aq:=h1.e ae.o;have br:=Da aq (i:=11) (u:=Z ra rn rc) rfl;have bq:=Da h3 (i:=0) (u:=O Y rt) rfl;have aj:=Aa (fun j (h:(Value.slice ra rn rc).ownBlock=V j)=>f.o.lt j h);(have al:Pc ⟨sk,w,d,p,step,R,b⟩ L (i+1)=Pc ⟨sk,w,d,p,step,R,b⟩ L i++[rt]:=by rw[Pc,a5.o];dsimp only;unfold Yo;rw[aJ]);have au:=Aa al;have zw:=h1.size;have bI:sb+1<W.heap.size:=oM;have bJ:sb<W.heap.size:=oM;have bK:wr.heap.size+1<W.heap.size:=oM;clear al aJ aX
    gi_wp2
    refine pw (fun i=>decide (9<i)) (Ea [(⟨sb+1,0,X⟩,N (V ⟨sb,0,X⟩)),(⟨sb,11,X⟩,Z ra rn rc),(⟨wr.heap.size+1,0,X⟩,O Y rt)]) kM ?_ (fun n=>?_)
    ·exact cA
    refine sN 0 ?_
    (iterate 6 refine Nm ?_);refine oN ?_;refine mj (i:=6) fun K hK=>?_;go_simp;refine kO hK (fun _=>cE n ((eR _).alloc _)) (fun n=>?_);clear hK K;have n:=n rfl;have hA:Ba wr ((W.alloc (I #[O Y rt] 3)).drew):=(h1.alloc _).drew;refine mj (i:=7) fun K hK=>?_;refine Bv (T:=3) (t:=47) (z:=O Y 0) (k:=1) (bytes:=8) (v:=Z ra rn rc) (base:=w7.heap.size) jv rfl dM dM Tryz.underlying47 rfl _ _ rfl rfl (f.o.ext hA) (ad:=⟨W.heap.size,0,X⟩) (m:=1) (c:=1) rfl [(#[O Y rt]:Array M).toList] rfl sM (by exact Wn W #[O Y rt] 3) (by simp[Value.oneCell']) (by rw[lL,Dv];omega) (by have:=hA.size;omega) ?_;intro v' w9 ai ag bt;obtain⟨a9,n9,c9,rfl⟩:=ai.i;refine kO hK (fun _=>Ea.grown n ag (fun q hq e=>?_)) (fun n=>?_)
    ·have h9:=aj.o _ e.symm;simp at hq;(have h8:∀r,(Value.slice ra rn rc).ownBlock=V r->r≠wr.heap.size+1:=fun r hr=>by have:=(aj.o r hr).2;omega);rcases hq with rfl|rfl|rfl
     ·dsimp only at h9;omega
     ·dsimp only at h9;omega
     ·exact h8 _ e.symm rfl
    clear hK K;have n:=n rfl;refine sN 8 ?_
    (iterate 2 refine Nm ?_);refine oN ?_;have aw:=Ah ag (hA.e ae.o) (fun e=>by have:=(aj.o _ e.symm).1;omega);have n1:=Da aw (i:=11) (u:=Z ra rn rc) rfl;have nf:=Za aw;have aB:Xc w9 (D::Ds):=(((ar.o.ext h1).cons bc (fun bi=>by have:=Ya (ar.o.2 D bi);omega)).ext (((eR W).alloc _).drew)).grown ag (fun r hr=>by
     rcases(f.o.ext hA).2.2 with ⟨q1,_⟩|⟨g,cap,cur,hv,_,hh,_⟩
     ·rw[q1]at hr;cases hr
     ·rw[hv]at hr;cases hr;exact⟨_,_,_,hh⟩)
    have aL:=Aa aB;clear aB;refine mj (i:=10) fun K hK=>?_;go_simp;refine kO hK (fun h=>nomatch h) (fun n=>?_);clear hK K;refine rh kM ?_ _;unfold NQ
    gi_wp2
    refine Handed.intro (qn-(i+1)) (by have:=af.o;omega) (hJ _ _ _ ⟨⟨i+1,Z a9 n9 c9,D::Ds,by have:=af.o;omega,?_,by rw[af.o],uk (Lk an.o ((Below.mono hA aD).trans (Yg (base:=w7.heap.size) ag (nT aD hA.size) (fun k hk=>(aj.o k hk).1)))) 11 _,Kk aw 11 _,?_,rfl,aL.o.set aw _,?_⟩,rfl,rfl,rfl,rfl⟩)
    ·show (_:M)=_;go_num
    ·rw[au.o,List.map_append];exact ai.setOther (fun e=>by have:=(ai.lt _ e).1;dsimp only at this;omega) _
    ·intro E hE;rcases List.mem_cons.1 hE with rfl|hE
     ·omega
     ·exact aE.o E hE
  ·obtain rfl:qn=i:=oM;have an:=Aa ab;have ae:=Aa am;have f:=Aa ac;have ar:=Aa ax;have aE:=Aa av;clear ab am ac ax av aV
   gi_wp2
   exact HQ.o _ _ _ Ds ⟨rfl,rfl⟩ rfl an.o ae.o (by rw[af.o];exact f.o) ar.o aE.o
