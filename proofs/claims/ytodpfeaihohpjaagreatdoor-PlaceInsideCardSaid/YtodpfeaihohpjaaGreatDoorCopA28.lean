/- Part 29: contracts of what the law calls. -/
import Derived.Test.YtodpfeaihohpjaaGreatDoorCopA27
import Derived.Test.YtodpfeaihohpjaaGreatDoorCopA24
set_option maxRecDepth 1000000
set_option maxHeartbeats 16000000
set_option linter.unusedSimpArgs false
set_option linter.unusedVariables false
open Go.Value renaming slice→O,pointer→X,bool→M
open Option renaming none→Y,some→Z
open Go renaming Value→V,World→I
namespace Go.Proofs.YtodpfeaihohpjaaGreatDoor.Cop
section
open Go.RowKit Go.Shelf Go.Sort Go.Lib
attribute [local go_sem] Oper.semAt_some
def insJ (p q:Pl) (y x:Rat) (xs:List Rat):Nat→List Rat
 | 0=>xs
 | 1=>xs++crossL (dif (upP2 p) (upP2 q)) y x
 | _=>xs++crossL (dif (upP2 p) (upP2 q)) y x++crossL (dif (lowP2 p) (lowP2 q)) y x
def InF (d e f b c:V) (a:Act):Prop:=a.tmps.size=138∧a.tmps.getD 4 undef=d∧a.tmps.getD 6 undef=e∧a.tmps.getD 7 undef=f∧a.tmps.getD 11 undef=b∧a.tmps.getD 13 undef=c∧a.defers=[]
def InR (wc:I) (c:Nat) (g h e f b:V) (p q:Pl) (y x:Rat) (xs:List Rat) (d:Nat) (a:Act) (W:I):Prop:=
 ∃j v,j≤2∧d=2-j∧a.tmps.getD 91 undef = .int .i64 (j:Nat)∧a.tmps.getD 12 undef=v∧OwnR W wc.heap.size v (insJ p q y x xs j)∧Ext wc W∧W.heap[c]?=Z (.cells #[g,h,e,f] 142 (0,0))∧a.tmps.getD 89 undef=b∧a.tmps.getD 90 undef = .int .i64 2
theorem zjy (Q:Exit→Act→I→Prop) (wc w5:I) (p4 p6 p7:V) (bs gs n c o ah:Nat) (p q:Pl) (qs xs:List Rat) (y x:Rat) (u0 u1 l0 l1 aD:V)
  (hs:IsRs wc (O (Z ⟨gs,0,Y⟩) o ah) qs) (hy:qs[n]?=Z y) (hx:qs[n+1]?=Z x) (a7:Rb 1 y) (a6:Rb 1 x) (o1:placedOk p=true) (o2:placedOk q=true)
  (e0:IsPts wc u0 (upP2 p)) (e1:IsPts wc u1 (upP2 q)) (e2:IsPts wc l0 (lowP2 p)) (e3:IsPts wc l1 (lowP2 q)) (bb:xs.length≤10000)
  (ba:Ext wc w5) (ho:OwnR w5 wc.heap.size aD xs) (D:w5.heap[bs]?=Z (.cells #[u0,u1,l0,l1] 142 (0,0)))
  (a0:Act) (h0:InF p4 p6 p7 (O (Z ⟨gs,0,Y⟩) o ah) (.int .i64 (n+1:Nat)) a0) (h12:a0.tmps.getD 12 undef=aD) (aO:a0.tmps.getD 89 undef=O (Z ⟨bs,0,Y⟩) 2 2) (aP:a0.tmps.getD 90 undef = .int .i64 2) (aQ:a0.tmps.getD 91 undef = .int .i64 (0:Nat))
  (aT:∀(c:List PanicEntry) (a:Act) (d:Option Nat) (v:V) (w:I),Q (.panic c) (a.put d v) w→Q (.panic c) a w) (aU:∀(c:List PanicEntry) (a:Act) (d:Option Nat) (v:V) (w:I),Q (.panic c) a w→Q (.panic c) (a.put d v) w)
  (hQ:∀a' W v,InF p4 p6 p7 (O (Z ⟨gs,0,Y⟩) o ah) (.int .i64 (n+1:Nat)) a'→a'.tmps.getD 12 undef=v→OwnR W wc.heap.size v (xs++insC p q y x)→Ext wc W→Q (.exit 2) a' W) :
  (Code.loop (loopAt Tryz.f23 1)).wp Tryz.prog Q a0 w5:=by
 have HQ:=hd9 hQ;have b:=hd9 aT;have bk:=hd9 aU;have Hs:=hd9 hs;have Hy:=hd9 hy;have aK:=hd9 hx;have HB:=hd9 (And.intro (And.intro a7 a6) (And.intro o1 o2));have HE:=hd9 (And.intro (And.intro e0 e1) (And.intro e2 e3));have bp:=hd9 bb;clear hQ aT aU hs hy hx a7 a6 o1 o2 e0 e1 e2 e3 bb;unfold loopAt;simp only [Tryz.f23,loopsOf,List.cons_append,List.nil_append,List.append_nil,List.getD_cons_succ,List.getD_cons_zero];refine wp_loop_ghost_k (fun gk a W=>InR wc bs u0 u1 l0 l1 (O (Z ⟨bs,0,Y⟩) 2 2) p q y x xs gk a W∧InF p4 p6 p7 (O (Z ⟨gs,0,Y⟩) o ah) (.int .i64 (n+1:Nat)) a) 2 ⟨⟨0,aD,Nat.zero_le _,rfl,aQ,h12,ho,ba,D,aO,aP⟩,h0⟩ ?round;clear ho ba D h0 h12 aO aP aQ;intro gk aa wr hinv;obtain⟨tt,dd⟩:=aa;obtain⟨⟨j,v,hj,rfl,an,aj,ho,hx,D,al,am⟩,f0,f4,f6,f7,ai,ak,a1⟩:=hinv;obtain⟨bq,bB,br,rfl⟩:=form3 ho.rs;dsimp only at an aj al am f0 f4 f6 f7 ai ak a1;subst a1;obtain⟨u,hu,ht⟩:=arrU tt 138 f0;simp only [hu]at an aj al am f4 f6 f7 ai ak;clear hu f0;subst ht;simp only [List.range,List.range.loop,List.map_cons,List.map_nil,an,aj,al,am,f4,f6,f7,ai,ak];clear an aj al am f4 f6 f7 ai ak;intro J K hJ bM;have Hx:=hd9 hx;have Ho:=hd9 ho;have HK:=hd9 D;clear ho
 by_cases bP:j<2
 ·obtain⟨uu,ll,A,Bq,cu,cl,aB,aA,bc,bd,a8⟩:∃uu ll A Bq,wr.cell? ⟨bs,j*2,Y⟩=Z uu∧wr.cell? ⟨bs,j*2+1,Y⟩=Z ll∧IsPts wc uu A∧IsPts wc ll Bq∧LnOk A∧LnOk Bq∧insJ p q y x xs (j+1)=insJ p q y x xs j++crossL (dif A Bq) y x:=by
   obtain⟨⟨i1,i2⟩,i3,i4⟩:=HE.out;obtain⟨-,i5,i6⟩:=HB.out
   rcases(show j=0∨j=1 by omega)with rfl|rfl
   ·exact⟨_,_,_,_,qcB D (i:=0) rfl,qcB D (i:=1) rfl,i1,i2,(zae i5).2,(zae i6).2,rfl⟩
   ·exact⟨_,_,_,_,qcB D (i:=2) rfl,qcB D (i:=3) rfl,i3,i4,(zae i5).1,(zae i6).1,rfl⟩
  obtain⟨ua,un,uc,rfl⟩:=form3 aB;obtain⟨la,ln,lc,rfl⟩:=form3 aA;have aC:=Hs.out.ext' hx;obtain⟨g1,q1,ya,ym,yc,ys,bF,bH,bG,ey,bN,ry,y0,y1,y2⟩:=aC.at' Hy.out
  cases ey
  obtain⟨g2,q2,xa,xm,xc,xt,bC,bE,bD,ex,-,rx,x0,x1,x2⟩:=aC.at' aK.out
  cases ex
  simp only [Nat.zero_add]at y0 y1 y2 x0 x1 x2
  have bJ:n+1<o:=by
   have h1:=(lS.1 aK.out).1;have h2:=Sl.len Hs.out;omega
  have bQ:o≤9223372036854775807:=by have h9:=Hs.out.le;have h2:=Sl.len Hs.out;unfold maxLen at h9;omega
  have bO:=zaa D;have aw:=hd9 a8;have p0:(0:Int)≤(j:Int):=oM
  have p1:(j:Int)<2:=oM
  have p2:(0:Int)≤(n:Int):=oM
  have p3:(n:Int)<(o:Int):=oM
  have p5:((n+1:Nat):Int)<(o:Int):=oM
  have p6:(0:Int)≤((n+1:Nat):Int):=oM
  have p7:(n:Int)+1<(o:Int):=oM
  have p8:(0:Int)≤(n:Int)+1:=oM
  have aF:=hd9 (fun(W:I) (hW:Ext wr W)=>zfL W _ _ _ _ A Bq y x (aB.ext' (hx.trans hW)) (aA.ext' (hx.trans hW)) bc bd (ry.ext hW) (rx.ext hW) (HB.out.1.1.up dM) (HB.out.1.2.up dM));clear a8 aB aA bc bd ry rx D hx aC;obtain⟨ay,ae⟩:=gX wr.heap.size
  go_upto_region 16 with fail
  obtain⟨ab,P⟩:=gX (wr.alloc (.cells #[O ua un uc,O la ln lc] 142));rw [P];(try rw [ae]);have XA:Ext wr ab:=by rw [←P];exact(eR _).alloc _
  have ax:ab.heap[ay]?=Z (.cells #[O ua un uc,O la ln lc] 142 (0,0)):=by
   rw [←P];exact qhA _ _ _ ae.symm
  have aE:CellL [(⟨ay,0,Y⟩,O ua un uc),(⟨ay,1,Y⟩,O la ln lc),(⟨gs,n*3,Y⟩,O ya ym yc),(⟨gs,n*3+1,Y⟩,M ys),(⟨gs,n*3+2,Y⟩,O bF bH bG),(⟨gs,(n+1)*3,Y⟩,O xa xm xc),(⟨gs,(n+1)*3+1,Y⟩,M xt),(⟨gs,(n+1)*3+2,Y⟩,O bC bE bD)] ab.drew:=
   ⟨qcB ax (i:=0) rfl,qcB ax (i:=1) rfl,XA.cellS y0,XA.cellS y1,XA.cellS y2,XA.cellS x0,XA.cellS x1,XA.cellS x2,trivial⟩
  have au:=hd9 XA
  have aM:IntKind.i64.wrap (n:Int)=(n:Int):=by
   have h1 : -9223372036854775808≤(n:Int):=oM
   have h2:(n:Int)≤9223372036854775807:=oM
   exact iW _ ⟨h1,h2⟩
  clear P ae y0 y1 y2 x0 x1 x2 cu cl ax XA;refine zbb [(17,16,.cells #[O Y 0 0,M false,O Y 0 0] 65 (0,0))] _ 19 2 (fun i=>decide (17<i)) (fun i=>i==15 || i==16) kM kM kM sM kM (by intro x hx;simp only [List.mem_cons,List.not_mem_nil,or_false]at hx;rcases hx with rfl<;>exact⟨_,rfl,rfl,fun a W=>by go_simp⟩) (fun _ _ _ _ _ h=>bk.out _ _ _ _ _ h) aE (fun aR=>?_);refine tf1 (i:=0) (h4:=fun _ _ _ h=>b.out _ _ _ _ _ h) ?_;refine tf1 (i:=1) (h4:=fun _ _ _ h=>b.out _ _ _ _ _ h) ?_;refine tf1 (i:=2) (h4:=fun _ _ _ h=>b.out _ _ _ _ _ h) ?_;refine tf1 (i:=3) (h4:=fun _ _ _ h=>b.out _ _ _ _ _ h) ?_;refine tf1 (i:=4) (h4:=fun _ _ _ h=>b.out _ _ _ _ _ h) ?_;refine tf1 (i:=5) (h4:=fun _ _ _ h=>b.out _ _ _ _ _ h) ?_;refine tf1 (i:=6) (h4:=fun _ _ _ h=>b.out _ _ _ _ _ h) ?_;refine tf1 (i:=7) (h4:=fun _ _ _ h=>b.out _ _ _ _ _ h) ?_;refine tf1 (i:=8) (h4:=fun _ _ _ h=>b.out _ _ _ _ _ h) ?_;refine tf1 (i:=9) (h4:=fun _ _ _ h=>b.out _ _ _ _ _ h) ?_;refine tf1 (i:=10) (h4:=fun _ _ _ h=>b.out _ _ _ _ _ h) ?_;refine tf1 (i:=11) (h4:=fun _ _ _ h=>b.out _ _ _ _ _ h) ?_;refine tf1 (i:=12) (h4:=fun _ _ _ h=>b.out _ _ _ _ _ h) ?_;clear aM;refine cf1 (i:=13) fun bL bv ac bt K D=>?_
  go_simp
  (with_reducible refine cM (aF.out _ (au.out.trans ((eR ab).drew.trans ac))) ?_)
  rintro e bW ⟨r,rfl,hr,ar⟩;obtain⟨ra,rm,rc,rs,be,bg,bf,rfl⟩:=hr.form
  go_wp2_with fail
  refine kO D (.of ac ar) (fun _ _=>?_);clear D K bt;refine tf1 (i:=14) (h4:=fun _ _ _ h=>b.out _ _ _ _ _ h) ?_;refine tf1 (i:=15) (h4:=fun _ _ _ h=>b.out _ _ _ _ _ h) ?_;refine tf1 (i:=16) (h4:=fun _ _ _ h=>b.out _ _ _ _ _ h) ?_;refine df kM (fun W5 aq az=>?_);intro s q5 y5 _ _;have Y5:Ext ab W5:=(eR ab).drew.trans az;have a4:=hr.ext aq;have aV:RB W5 s 0:=⟨_,_,_,_,_,_,_,q5,IsR.zero _⟩;have kf:=qfB q5;have g0:=qcB q5 (i:=0) (u:=O Y 0 0) rfl;have g1:=qcB q5 (i:=1) (u:=M false) rfl;have g2:=qcB q5 (i:=2) (u:=O Y 0 0) rfl;clear ar hr aq;refine cl1 (i:=18) fun K D=>?_
  go_simp;refine kO D (cE aR (by(repeat refine Ext.set ?_ (by exact y5) _);exact az)) (fun bu=>?_);clear D K;refine tk1 (i:=19) (h4:=fun _ _ _ h=>b.out _ _ _ _ _ h) ?_;refine wpAnyH_done kM ?_ _;clear g0 g1 g2 kf bu;obtain⟨W6,aW⟩:=gX ((((W5.setCell ⟨s,0,Y⟩ (O ra rm rc)).setCell ⟨s,1,Y⟩ (M rs)).setCell ⟨s,2,Y⟩ (O be bg bf)));have hP:=aV.put a4;have X5:=au.out.trans Y5
  have af:wr.heap.size≤s:=by
   have:=au.out.size;simp only [qdZ]at y5;omega
  have X6:=((X5.set (p:=⟨s,0,Y⟩) af (O ra rm rc)).set (p:=⟨s,1,Y⟩) af (M rs)).set (p:=⟨s,2,Y⟩) af (O be bg bf);rw [aW]at hP X6 ⊢;clear aW a4 aV X5 Y5 az y5 q5 aE aR;obtain⟨ta,tm,tc,ts,bh,bj,bi,t0,t1,t2,bU,tf1,bV,zt,a5⟩:=hP.rd;have bl:=hd9 X6;have aJ:=hd9 a5;have Xw:=Hx.out.trans X6;have av:=hd9 Xw;have aS:=X6.heapS HK.out;have aG:=hd9 aS;have a3:crossL (dif A Bq) y x=[]∨∃z,crossL (dif A Bq) y x=[z]:=by unfold crossL;split<;>simp
  have bx:(insJ p q y x xs j).length≤10002:=by
   have h1:∀f:Rat→Rat,(crossL f y x).length≤1:=fun f=>by unfold crossL;split<;>simp
   have h2:=h1 (dif (upP2 p) (upP2 q));have h3:=h1 (dif (lowP2 p) (lowP2 q));have h4:=bp.out;unfold insJ
   split<;>((try simp only [lA]);omega)
  have aH:=hd9 (Ho.out.ext X6);obtain⟨l,ap⟩:=gX (crossL (dif A Bq) y x);rw [ap]at a3;rw [ap]at aw aJ;rw [ap];clear ap aF hP a5 X6 Xw aS bl
  rcases a3 with rfl|⟨z,rfl⟩
  ·go_wp2
   refine Handed.intro (2-(j+1)) oM (hJ _ _ _ ⟨⟨j+1,_,by omega,rfl,?_,rfl,?_,av.out,aG.out,rfl,rfl⟩,⟨rfl,rfl,rfl,rfl,rfl,rfl,rfl⟩⟩)
   ·show (_:V)=_
    go_num
   ·rw [aw.out,List.append_nil]
    exact aH.out
  ·obtain⟨cs,aX,aY,aZ⟩:=aH.out
   have aI:=hd9 aX;have bm:=hd9 aY;have bn:=hd9 aZ;have a2:cs.length≤10002:=oM
   have bo:=hd9 a2;have bA:=Hx.out.size;have bz:wc.heap.size≤W6.heap.size:=av.out.size;have aL:=hd9 bz;clear aX aY aZ a2 bx bA
   go_wp2_with(at_builtin;refine appC (T:=65) (t:=139) (z:=.agg #[O Y 0 0,M false,O Y 0 0]) (k:=3) (bytes:=56) (base:=wc.heap.size) (v:=O bq bB br) (m:=1) (c:=1) (ad:=⟨W6.heap.size,0,Y⟩) zjv rfl dM dM Tryz.underlying139 rfl _ _ rfl rfl (aI.out.ext eA) rfl [[O ta tm tc,M ts,O bh bj bi]] rfl sM (zmc _ _ _ _ _) (by simp [Value.oneCell']) (by have:=bo.out;omega) (by have:=aL.out;simp only [wZ,qdZ]at *;omega) ?_;intro v' w8 ag g bI;obtain⟨a9,n9,c9,rfl⟩:=ag.form3)
   have hA:Ext W6 (W6.alloc (.cells #[O ta tm tc,M ts,O bh bj bi] 65)):=(eR _).alloc _;have ao:=aI.out.ext hA;have bT:=hA.size;have bK:=aL.out;have bw:=zah (base:=wc.heap.size) g oM (fun k hk=>(ao.lt k hk).1);refine Handed.intro (2-(j+1)) oM (hJ _ _ _ ⟨⟨j+1,_,by omega,rfl,?_,rfl,?_,(av.out.trans hA).thenB bw (nE _),?_,rfl,rfl⟩,⟨rfl,rfl,rfl,rfl,rfl,rfl,rfl⟩⟩)
   ·show (_:V)=_
    go_num
   ·rw [aw.out]
    exact OwnR.app ag bm.out bn.out (hA.keep.trans (ao.keepT dM g)) (aJ.out.keep (hA.keep.trans (ao.keepT dM g)))
   ·exact(ao.keepT (T':=142) dM g) _ _ _ (hA.heapS aG.out)
 ·obtain rfl:j=2:=oM
  clear hx D;go_wp2;refine HQ.out _ _ _ ⟨rfl,rfl,rfl,rfl,rfl,rfl,rfl⟩ rfl ?_ Hx.out;have:=Ho.out;unfold insJ at this;unfold insC;rw [←List.append_assoc];exact this
def OuR (wc:I) (p q:Pl) (m:Nat) (c:Nat) (a:Act) (W:I) (d e f b:V):Prop:=
 ∃n v,n+1≤m∧c=m-(n+1)∧a.tmps.getD 12 undef=v∧OwnR W wc.heap.size v (insN p q n)∧Ext wc W∧InF d e f b (.int .i64 (n+1:Nat)) a
theorem zjz (Q:Exit→Act→I→Prop) (wc w5:I) (p4:V) (b6 b7 gs b k:Nat) (p q:Pl) (af:V)
  (hs:IsRs wc (O (Z ⟨gs,0,Y⟩) b k) (stopsR (insS p q))) (o1:placedOk p=true) (o2:placedOk q=true) (hw:InsW wc b6 b7 p q)
  (ap:Ext wc w5) (ho:OwnR w5 wc.heap.size af (stopsR (insS p q)))
  (a0:Act) (h0:InF p4 (X (Z ⟨b6,0,Y⟩)) (X (Z ⟨b7,0,Y⟩)) (O (Z ⟨gs,0,Y⟩) b k) (.int .i64 (0+1:Nat)) a0) (h12:a0.tmps.getD 12 undef=af)
  (al:∀(c:List PanicEntry) (a:Act) (d:Option Nat) (v:V) (w:I),Q (.panic c) (a.put d v) w→Q (.panic c) a w) (am:∀(c:List PanicEntry) (a:Act) (d:Option Nat) (v:V) (w:I),Q (.panic c) a w→Q (.panic c) (a.put d v) w)
  (hQ:∀a' W v p13,InF p4 (X (Z ⟨b6,0,Y⟩)) (X (Z ⟨b7,0,Y⟩)) (O (Z ⟨gs,0,Y⟩) b k) p13 a'→a'.tmps.getD 12 undef=v→OwnR W wc.heap.size v (insN p q ((stopsR (insS p q)).length-1))→Ext wc W→Q (.exit 0) a' W) :
  (Code.loop (loopAt Tryz.f23 0)).wp Tryz.prog Q a0 w5:=by
 have HQ:=hd9 hQ;have aF:=hd9 al;have aG:=hd9 am;have Hs:=hd9 hs;have HB:=hd9 (And.intro o1 o2);have HW:=hd9 hw;have j:(stopsR (insS p q)).length=b:=(Sl.len hs).symm;have Hn:=hd9 j;have aP:=zco (zb0 o1 o2);rw [j]at aP
 have aQ:0<b:=by
  rw [←j];exact List.length_pos_iff.2 (zaw _)
 clear hQ al am hs hw;unfold loopAt;simp only [Tryz.f23,loopsOf,List.cons_append,List.nil_append,List.append_nil,List.getD_cons_succ,List.getD_cons_zero];refine wp_loop_ghost_k (fun gk a W=>OuR wc p q b gk a W p4 (X (Z ⟨b6,0,Y⟩)) (X (Z ⟨b7,0,Y⟩)) (O (Z ⟨gs,0,Y⟩) b k)) (b-1) ⟨0,af,by omega,rfl,h12,ho,ap,h0⟩ ?round;clear ho ap h0 h12 j o1 o2 aQ;intro gk aa wr hinv;obtain⟨tt,dd⟩:=aa;obtain⟨n,v,hj,rfl,f,ho,T,z,m,o,r,e,g,l⟩:=hinv;obtain⟨aJ,aV,aK,rfl⟩:=form3 ho.rs;dsimp only at f z m o r e g l;subst l;obtain⟨u,hu,ht⟩:=arrU tt 138 z;simp only [hu]at f m o r e g;clear hu z;subst ht;simp only [List.range,List.range.loop,List.map_cons,List.map_nil,f,m,o,r,e,g];clear f m o r e g;intro J K hJ a1;have Hx:=hd9 T;have Ho:=hd9 ho;clear ho;have p6:(0:Int)≤((n+1:Nat):Int):=oM
 have p8:(0:Int)≤(n:Int)+1:=oM
 by_cases D:n+1<b
 ·have p5:((n+1:Nat):Int)<(b:Int):=oM
  have p7:(n:Int)+1<(b:Int):=oM
  obtain⟨⟨x6,y6,ah,ai,ab,ac⟩,⟨x7,y7,aj,ak,ad,ae⟩⟩:=HW.out;obtain⟨ar,ax,av,rfl⟩:=form3 ab;obtain⟨az,aD,aB,rfl⟩:=form3 ac;obtain⟨au,ay,aw,rfl⟩:=form3 ad;obtain⟨aA,aE,aC,rfl⟩:=form3 ae;have aR:=T.cellS ah;have aS:=T.cellS ai;have aT:=T.cellS aj;have aU:=T.cellS ak;have HI:=hd9 (And.intro (And.intro ab ac) (And.intro ad ae));clear ah ai aj ak ab ac ad ae T;obtain⟨bs,an⟩:=gX wr.heap.size;go_wp2;obtain⟨y,i⟩:=gX (wr.alloc (.cells #[O az aD aB,O aA aE aC,O ar ax av,O au ay aw] 142));rw [i];(try rw [an]);have XA:Ext wr y:=by rw [←i];exact(eR _).alloc _
  have Kb:y.heap[bs]?=Z (.cells #[O az aD aB,O aA aE aC,O ar ax av,O au ay aw] 142 (0,0)):=by
   rw [←i];exact qhA _ _ _ an.symm
  have s:n<(stopsR (insS p q)).length:=by rw [Hn.out];omega
  have t:n+1<(stopsR (insS p q)).length:=by rw [Hn.out];exact D
  have P:=zev (zb0 HB.out.1 HB.out.2);obtain⟨aL,aM⟩:=zgF HB.out.1 HB.out.2 n oM
  have ao:insN p q (n+1)=insN p q n++insC p q ((stopsR (insS p q))[n]'s) ((stopsR (insS p q))[n+1]'t):=by
   show insN p q n++insC p q _ _=_
   rw [gD,gE s,Option.getD_some,gD,gE t,Option.getD_some]
  have ag:=hd9 ao;have Xw:=Hx.out.trans XA;have aZ:=hd9 Xw;have Hj:=hd9 D;clear i ao aR aS aT aU;refine zjy _ wc y p4 (X (Z ⟨b6,0,Y⟩)) (X (Z ⟨b7,0,Y⟩)) bs gs n 0 b k p q (stopsR (insS p q)) (insN p q n) _ _ _ _ _ _ (O aJ aV aK) Hs.out (gE s) (gE t) (P _ (List.getElem_mem _)) (P _ (List.getElem_mem _)) HB.out.1 HB.out.2 HI.out.1.2 HI.out.2.2 HI.out.1.1 HI.out.2.1 oM Xw (Ho.out.ext XA) Kb _ ⟨rfl,rfl,rfl,rfl,rfl,rfl,rfl⟩ rfl rfl rfl rfl (fun c a d v w h=>aF.out c a d v w h) (fun c a d v w h=>aG.out c a d v w h) (fun a' W7 v aO f x aq=>?_);rw [←ag.out]at x;obtain⟨aW,aY,aX,rfl⟩:=form3 x.rs;clear Kb Xw XA P aL aM ag s t D;obtain⟨tt,dd⟩:=a';obtain⟨z,m,o,r,e,g,l⟩:=aO;dsimp only at f z m o r e g l;subst l;obtain⟨u,hu,ht⟩:=arrU tt 138 z;simp only [hu]at f m o r e g;clear hu z;subst ht;simp only [List.range,List.range.loop,List.map_cons,List.map_nil,f,m,o,r,e,g];clear f m o r e g;have aH:=hd9 x;have aI:=hd9 aq;clear x aq;go_wp2;refine Handed.intro (b-(n+1+1)) (by have:=Hj.out;omega) (hJ _ _ _ ⟨n+1,_,by have:=Hj.out;omega,rfl,rfl,aH.out,aI.out,⟨rfl,rfl,rfl,rfl,rfl,?_,rfl⟩⟩)
  show (_:V)=_
  go_num
 ·obtain rfl:b=n+1:=oM
  clear T;go_wp2;refine HQ.out _ _ _ _ ⟨rfl,rfl,rfl,rfl,rfl,rfl,rfl⟩ rfl ?_ Hx.out;rw [Hn.out];exact Ho.out
end
end Go.Proofs.YtodpfeaihohpjaaGreatDoor.Cop
