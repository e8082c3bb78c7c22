import Derived.Test.YtjnjpagegkcgfaaGreatDoorCoqA19
set_option maxRecDepth 1000000
set_option maxHeartbeats 16000000
set_option linter.all false
open Go.Value renaming slice->O,int->Y,bool->N,agg->E,tuple->G
open Go.IntKind renaming i64->Z
open Option renaming none->X,some->C
open Go renaming World->I,Value->F
open Go.Obj renaming cells->M
namespace Go.Proofs.YtjnjpagegkcgfaaGreatDoor.Cop
section
open Go.RowKit Go.Shelf Go.Sort Go.Lib
attribute [local go_sem] Oper.semAt_some
def zV:F:=E #[O X 0 0,N false,O X 0 0,O X 0 0,N false,O X 0 0]
def Ok(w:I)(k:Int)(e:Ending)(w':I):Prop:=e=.returned (G #[zV,Y Z k])/\Aa w w'
def iI w i j p q(b:Fa w i p.shape)(c:Fa w j q.shape)(t:0<=p.skin)(u:0<=q.skin)(o:¬(Ca p=true/\Ca q=true)):Calls Tryz.prog 41 #[E (nc p i),E (nc q j)] w (Ok w 2):=by have r:=ka (fun(W:I)(s:Aa w W)=>St W i j p q (b.f s) (c.f s) t u o);obtain⟨y,aa,K,rfl⟩:=Ja b;obtain⟨z,ab,P,rfl⟩:=Ja c;obtain⟨R,d⟩:=gX (Ok w 2);rw[d];have x:=ka d;clear b c t u o d;unfold nc at r ⊢;go_in;go_wp2_with(first|(go_at_call 103;refine cM (r.o _ eA) ?_;rintro e k ⟨rfl,a⟩;obtain⟨f,g⟩:=a.cells;(have z5:=a.size);(simp only[wZ]at z5);(have l:w.heap.size<k.heap.size:=oM);(have m:w.heap.size+1<k.heap.size:=oM);(have n:w.heap.size+1+1<k.heap.size:=oM))|fail);refine bR (v:=G #[zV,Y Z 2]) (by simp[zV,results,Tryz.results41,go_sem,f,g,l,m,n]) rfl ?_;rw[<-x.o];exact⟨rfl,eA⟩
def sG w a b p q(c:Fa w a p.shape)(d:Fa w b q.shape)(k1:0<=p.skin)(k2:0<=q.skin)(f:Gw w)(o:Ca p=true/\Ca q=true)(m:Dc p q≠5):Calls Tryz.prog 41 #[E (nc p a),E (nc q b)] w (Ok w 12):=by
 have HP:=ka (fun(W:I)(r:Aa w W)=>Wm W a b p q (c.f r) (d.f r) k1 k2 (f.ext r) o.1 o.2);have HR:=ka (fun(W:I)(a b:F)(c:Qd W a p)(d:Qd W b q)=>xq W a b p q c d o.1 o.2);obtain⟨k,hk⟩:=gX (Dc p q);rw[hk]at HR m;have ae:(k != 5)=true:=by simpa using m
 obtain⟨af,aj,ah,rfl⟩:=Ja c;obtain⟨ag,ak,ai,rfl⟩:=Ja d;obtain⟨R,n⟩:=gX (Ok w 12);rw[n];have HQ:=ka n;clear c d k1 k2 f o hk n m;unfold nc at HP ⊢;go_in;go_wp2_with(first|(go_at_call 103;refine cM (HP.o _ eA) ?_;rintro e y ⟨r1,r2,rfl,g,i,j⟩;obtain⟨a1,n1,c1,a2,n2,c2,a3,n3,c3,rfl⟩:=g.forms;obtain⟨b1,m1,d1,b2,m2,d2,b3,m3,d3,rfl⟩:=i.forms;obtain⟨s,u⟩:=j.cells;(have z5:=j.size);(simp only[wZ]at z5);(have K:w.heap.size<y.heap.size:=oM);(have P:w.heap.size+1<y.heap.size:=oM);(have aa:w.heap.size+1+1<y.heap.size:=oM))|(go_at_call 55;refine cM (HR.o _ _ _ (g.ext eA) (i.ext ?_)) ?_;exact eA;rintro e z ⟨rfl,l⟩;obtain⟨t,x⟩:=l.cells;(have z6:=l.size);(simp only[wZ]at z6);(have ab:w.heap.size<z.heap.size:=oM);(have ac:w.heap.size+1<z.heap.size:=oM);(have ad:w.heap.size+1+1<z.heap.size:=oM)));refine bR (v:=G #[zV,Y Z 12]) (by simp[zV,results,Tryz.results41,go_sem,s,u,t,x,K,P,aa,ab,ac,ad]) rfl ?_;rw[<-HQ.o];exact⟨rfl,eA⟩
end
section
open Go.RowKit Go.Shelf Go.Sort
attribute [local go_sem] Oper.semAt_some
end
section
open Go.RowKit Go.Shelf Go.Sort Go.Lib
attribute [local go_sem] Oper.semAt_some
def Yk(p q:Pl)(y x:Rat)(xs:List Rat):Nat->List Rat
 | 0=>xs
 | 1=>xs++od (Sg (La p) (La q)) y x
 | _=>xs++od (Sg (La p) (La q)) y x++od (Sg (Da p) (Da q)) y x
def Fq(d e f b c:F)(a:Act):Prop:=a.tmps.size=138/\a.tmps.getD 4 undef=d/\a.tmps.getD 6 undef=e/\a.tmps.getD 7 undef=f/\a.tmps.getD 11 undef=b/\a.tmps.getD 13 undef=c/\a.defers=[]
def QR(wc:I)(c:Nat)(g i e f b:F)(p q:Pl)(y x:Rat)(xs:List Rat)(d:Nat)(a:Act)(W:I):Prop:=
 ∃j v,j<=2/\d=2-j/\a.tmps.getD 91 undef=Y Z (j:Nat)/\a.tmps.getD 12 undef=v/\Jd W wc.heap.size v (Yk p q y x xs j)/\Aa wc W/\W.heap[c]?=C (M #[g,i,e,f] 189 (0,0))/\a.tmps.getD 89 undef=b/\a.tmps.getD 90 undef=Y Z 2
def JM Q wc w5 p4 p6 p7(bs gs n c g ag:Nat) p q qs xs y x u0 u1 l0 l1 aC(hs:Sf wc (O (C ⟨gs,0,X⟩) g ag) qs)(hy:qs[n]?=C y)(R:qs[n+1]?=C x)(a6:Rb 1 y)(a5:Rb 1 x)(o1:Ca p=true)(o2:Ca q=true)(e0:Fa wc u0 (La p))(e1:Fa wc u1 (La q))(e2:Fa wc l0 (Da p))(e3:Fa wc l1 (Da q))(ba:xs.length<=10000)(a8:Aa wc w5)(ho:Jd w5 wc.heap.size aC xs)(s:w5.heap[bs]?=C (M #[u0,u1,l0,l1] 189 (0,0))) a0(h0:Fq p4 p6 p7 (O (C ⟨gs,0,X⟩) g ag) (Y Z (n+1:Nat)) a0)(Yh:a0.tmps.getD 12 undef=aC)(aM:a0.tmps.getD 89 undef=O (C ⟨bs,0,X⟩) 2 2)(aO:a0.tmps.getD 90 undef=Y Z 2)(aP:a0.tmps.getD 91 undef=Y Z (0:Nat))(aS:gi Q)(aT:fj Q)(hQ:∀a' W v,Fq p4 p6 p7 (O (C ⟨gs,0,X⟩) g ag) (Y Z (n+1:Nat)) a'->a'.tmps.getD 12 undef=v->Jd W wc.heap.size v (xs++Mi p q y x)->Aa wc W->Q (.exit 2) a' W):(Code.loop (Pf Tryz.f41 1)).wp Tryz.prog Q a0 w5:=by
 have HQ:=ka hQ;have b:=ka aS;have bk:=ka aT;have Hs:=ka hs;have Hy:=ka hy;have aJ:=ka R;have HB:=ka (And.intro (And.intro a6 a5) (And.intro o1 o2));have HE:=ka (And.intro (And.intro e0 e1) (And.intro e2 e3));have bp:=ka ba;clear hQ aS aT hs hy R a6 a5 o1 o2 e0 e1 e2 e3 ba;unfold Pf;simp only[Tryz.f41,jd,List.cons_append,List.nil_append,List.append_nil,List.getD_cons_succ,List.getD_cons_zero];refine wp_loop_ghost_k (fun gk a W=>QR wc bs u0 u1 l0 l1 (O (C ⟨bs,0,X⟩) 2 2) p q y x xs gk a W/\Fq p4 p6 p7 (O (C ⟨gs,0,X⟩) g ag) (Y Z (n+1:Nat)) a) 2 ⟨⟨0,aC,Nat.zero_le _,rfl,aP,Yh,ho,a8,s,aM,aO⟩,h0⟩ ?round;clear ho a8 s h0 Yh aM aO aP;intro gk aa wr hinv;obtain⟨tt,dd⟩:=aa;obtain⟨⟨j,v,hj,rfl,am,ai,ho,R,s,ak,al⟩,f0,f4,f6,f7,ah,aj,aZ⟩:=hinv;obtain⟨bq,bB,br,rfl⟩:=Ja ho.rs;dsimp only at am ai ak al f0 f4 f6 f7 ah aj aZ;subst aZ;obtain⟨u,hu,ht⟩:=Pg tt 138 f0;simp only[hu]at am ai ak al f4 f6 f7 ah aj;clear hu f0;subst ht;simp only[List.range,List.range.loop,List.map_cons,List.map_nil,am,ai,ak,al,f4,f6,f7,ah,aj];clear am ai ak al f4 f6 f7 ah aj;intro J K hJ bM;have Hx:=ka R;have Ho:=ka ho;have HK:=ka s;clear ho;by_cases bP:j<2
 ·obtain⟨uu,ll,A,Bq,cu,cl,aA,az,bb,bc,a7⟩:∃uu ll A Bq,wr.cell? ⟨bs,j*2,X⟩=C uu/\wr.cell? ⟨bs,j*2+1,X⟩=C ll/\Fa wc uu A/\Fa wc ll Bq/\Wb A/\Wb Bq/\Yk p q y x xs (j+1)=Yk p q y x xs j++od (Sg A Bq) y x:=by
   obtain⟨⟨i1,i2⟩,i3,i4⟩:=HE.o;obtain⟨-,i5,i6⟩:=HB.o;rcases(show j=0\/j=1 by omega)with rfl|rfl
   ·exact⟨_,_,_,_,Ba s (i:=0) rfl,Ba s (i:=1) rfl,i1,i2,(Ye i5).2,(Ye i6).2,rfl⟩
   ·exact⟨_,_,_,_,Ba s (i:=2) rfl,Ba s (i:=3) rfl,i3,i4,(Ye i5).1,(Ye i6).1,rfl⟩
  obtain⟨ua,un,uc,rfl⟩:=Ja aA;obtain⟨la,ln,lc,rfl⟩:=Ja az;have aB:=Hs.o.f R;obtain⟨g1,q1,ya,ym,yc,ys,bF,bH,bG,ey,bN,ry,y0,y1,y2⟩:=aB.at' Hy.o;cases ey;obtain⟨g2,q2,xa,xm,xc,xt,bC,bE,bD,ex,-,rx,x0,x1,x2⟩:=aB.at' aJ.o;cases ex;simp only[Nat.zero_add]at y0 y1 y2 x0 x1 x2;have bJ:n+1<g:=by
   have h1:=(lS.1 aJ.o).1;have h2:=Sl.len Hs.o;omega
  have bQ:g<=9223372036854775807:=by have h9:=Hs.o.le;have h2:=Sl.len Hs.o;unfold maxLen at h9;omega
  have bO:=Jb s;have av:=ka a7;have p0:(0:Int)<=(j:Int):=oM;have p1:(j:Int)<2:=oM;have p2:(0:Int)<=(n:Int):=oM;have p3:(n:Int)<(g:Int):=oM;have p5:((n+1:Nat):Int)<(g:Int):=oM;have p6:(0:Int)<=((n+1:Nat):Int):=oM;have p7:(n:Int)+1<(g:Int):=oM;have p8:(0:Int)<=(n:Int)+1:=oM;have aE:=ka (fun(W:I)(hW:Aa wr W)=>jE W _ _ _ _ A Bq y x (aA.f (R.trans hW)) (az.f (R.trans hW)) bb bc (ry.ext hW) (rx.ext hW) (HB.o.1.1.up dM) (HB.o.1.2.up dM));clear a7 aA az bb bc ry rx s R aB;obtain⟨ax,ac⟩:=gX wr.heap.size;go_upto_region 16 with fail;obtain⟨P,w⟩:=gX (wr.alloc (M #[O ua un uc,O la ln lc] 189));rw[w];(try rw[ac]);have XA:Aa wr P:=by rw[<-w];exact(eR _).alloc _
  have aw:P.heap[ax]?=C (M #[O ua un uc,O la ln lc] 189 (0,0)):=by
   rw[<-w];exact Bc _ _ _ ac.symm
  have aD:Ea [(⟨ax,0,X⟩,O ua un uc),(⟨ax,1,X⟩,O la ln lc),(⟨gs,n*3,X⟩,O ya ym yc),(⟨gs,n*3+1,X⟩,N ys),(⟨gs,n*3+2,X⟩,O bF bH bG),(⟨gs,(n+1)*3,X⟩,O xa xm xc),(⟨gs,(n+1)*3+1,X⟩,N xt),(⟨gs,(n+1)*3+2,X⟩,O bC bE bD)] P.drew:=
   ⟨Ba aw (i:=0) rfl,Ba aw (i:=1) rfl,XA.d y0,XA.d y1,XA.d y2,XA.d x0,XA.d x1,XA.d x2,trivial⟩
  have ar:=ka XA;have aL:IntKind.i64.wrap (n:Int)=(n:Int):=by
   have h1:-9223372036854775808<=(n:Int):=oM;have h2:(n:Int)<=9223372036854775807:=oM;exact iW _ ⟨h1,h2⟩
  clear w ac y0 y1 y2 x0 x1 x2 cu cl aw XA;refine Eg [(17,16,M #[O X 0 0,N false,O X 0 0] 63 (0,0))] _ 19 2 (fun i=>decide (17<i)) (fun i=>i==15 || i==16) kM kM kM sM kM (by intro x R;simp only[List.mem_cons,List.not_mem_nil,or_false]at R;rcases R with rfl<;>exact⟨_,rfl,rfl,fun a W=>by go_simp⟩) (fun _ _ _ _ _ h=>bk.o _ _ _ _ _ h) aD (fun aQ=>?_);refine Pb (i:=0) (h4:=gh b) ?_;refine Pb (i:=1) (h4:=gh b) ?_;refine Pb (i:=2) (h4:=gh b) ?_;refine Pb (i:=3) (h4:=gh b) ?_;refine Pb (i:=4) (h4:=gh b) ?_;refine Pb (i:=5) (h4:=gh b) ?_;refine Pb (i:=6) (h4:=gh b) ?_;refine Pb (i:=7) (h4:=gh b) ?_;refine Pb (i:=8) (h4:=gh b) ?_;refine Pb (i:=9) (h4:=gh b) ?_;refine Pb (i:=10) (h4:=gh b) ?_;refine Pb (i:=11) (h4:=gh b) ?_;refine Pb (i:=12) (h4:=gh b) ?_;clear aL;refine Qe (i:=13) fun bL bv ab bt K s=>?_;go_simp;refine cM (aE.o _ (ar.o.trans ((eR P).drew.trans ab))) ?_;rintro e bW ⟨r,rfl,hr,aq⟩;obtain⟨ra,rm,rc,rs,be,bg,bf,rfl⟩:=hr.form;go_wp2;refine kO s (.of ab aq) (fun _ _=>?_);clear s K bt;refine Pb (i:=14) (h4:=gh b) ?_;refine Pb (i:=15) (h4:=gh b) ?_;refine Pb (i:=16) (h4:=gh b) ?_;refine df kM (fun W5 ap ay=>?_);intro o q5 y5 _ _;have Y5:Aa P W5:=(eR P).drew.trans ay;have a3:=hr.ext ap;have aU:RB W5 o 0:=⟨_,_,_,_,_,_,_,q5,Sa.zero _⟩;have kf:=Ya q5;have g0:=Ba q5 (i:=0) (u:=O X 0 0) rfl;have g1:=Ba q5 (i:=1) (u:=N false) rfl;have g2:=Ba q5 (i:=2) (u:=O X 0 0) rfl;clear aq hr ap;refine Vc (i:=18) fun K s=>?_;go_simp;refine kO s (cE aQ (by(repeat refine Aa.set ?_ (by exact y5) _);exact ay)) (fun bu=>?_);clear s K;refine Ib (i:=19) (h4:=gh b) ?_;refine Sb ?_;clear g0 g1 g2 kf bu;obtain⟨W6,aV⟩:=gX ((((W5.setCell ⟨o,0,X⟩ (O ra rm rc)).setCell ⟨o,1,X⟩ (N rs)).setCell ⟨o,2,X⟩ (O be bg bf)));have hP:=aU.put a3;have X5:=ar.o.trans Y5;have ae:wr.heap.size<=o:=by
   have:=ar.o.size;simp only[jc]at y5;omega
  have X6:=((X5.set (p:=⟨o,0,X⟩) ae (O ra rm rc)).set (p:=⟨o,1,X⟩) ae (N rs)).set (p:=⟨o,2,X⟩) ae (O be bg bf);rw[aV]at hP X6 ⊢;clear aV a3 aU X5 Y5 ay y5 q5 aD aQ;obtain⟨ta,tm,tc,ts,bh,bj,bi,t0,t1,t2,bU,Pb,bV,zt,a4⟩:=hP.rd;have bl:=ka X6;have aI:=ka a4;have Xw:=Hx.o.trans X6;have au:=ka Xw;have aR:=X6.e HK.o;have aF:=ka aR;have a2:od (Sg A Bq) y x=[]\/∃z,od (Sg A Bq) y x=[z]:=by unfold od;split<;>simp
  have bx:(Yk p q y x xs j).length<=10002:=by
   have h1:∀f:Rat->Rat,(od f y x).length<=1:=fun f=>by unfold od;split<;>simp
   have h2:=h1 (Sg (La p) (La q));have h3:=h1 (Sg (Da p) (Da q));have h4:=bp.o;unfold Yk;split<;>((try simp only[lA]);omega)
  have aG:=ka (Ho.o.ext X6);obtain⟨l,ao⟩:=gX (od (Sg A Bq) y x);rw[ao]at a2;rw[ao]at av aI;rw[ao];clear ao aE hP a4 X6 Xw aR bl;rcases a2 with rfl|⟨z,rfl⟩
  ·go_wp2;refine Handed.intro (2-(j+1)) oM (hJ _ _ _ ⟨⟨j+1,_,by omega,rfl,?_,rfl,?_,au.o,aF.o,rfl,rfl⟩,⟨rfl,rfl,rfl,rfl,rfl,rfl,rfl⟩⟩)
   ·show (_:F)=_;go_num
   ·rw[av.o,List.append_nil];exact aG.o
  ·obtain⟨cs,aW,aX,aY⟩:=aG.o;have aH:=ka aW;have bm:=ka aX;have bn:=ka aY;have a1:cs.length<=10002:=oM;have bo:=ka a1;have bA:=Hx.o.size;have bz:wc.heap.size<=W6.heap.size:=au.o.size;have aK:=ka bz;clear aW aX aY a1 bx bA;go_wp2_with(at_builtin;refine Ah (T:=63) (t:=177) (z:=E #[O X 0 0,N false,O X 0 0]) (k:=3) (bytes:=56) (base:=wc.heap.size) (v:=O bq bB br) (m:=1) (c:=1) (ad:=⟨W6.heap.size,0,X⟩) MM rfl dM dM Tryz.underlying177 rfl _ _ rfl rfl (aH.o.ext eA) rfl [[O ta tm tc,N ts,O bh bj bi]] rfl sM (Uz _ _ _ _ _) (by simp[Value.oneCell']) (by have:=bo.o;omega) (by have:=aK.o;simp only[wZ,jc]at *;omega) ?_;intro v' w8 af d bI;obtain⟨a9,n9,c9,rfl⟩:=af.i);have hA:Aa W6 (W6.alloc (M #[O ta tm tc,N ts,O bh bj bi] 63)):=(eR _).alloc _;have an:=aH.o.ext hA;have bT:=hA.size;have bK:=aK.o;have bw:=Bh (base:=wc.heap.size) d oM (fun k hk=>(an.lt k hk).1);refine Handed.intro (2-(j+1)) oM (hJ _ _ _ ⟨⟨j+1,_,by omega,rfl,?_,rfl,?_,(au.o.trans hA).y bw (nE _),?_,rfl,rfl⟩,⟨rfl,rfl,rfl,rfl,rfl,rfl,rfl⟩⟩)
   ·show (_:F)=_;go_num
   ·rw[av.o];exact Jd.app af bm.o bn.o (hA.keep.trans (an.keepT dM d)) (aI.o.keep (hA.keep.trans (an.keepT dM d)))
   ·exact(an.keepT (T':=189) dM d) _ _ _ (hA.e aF.o)
 ·obtain rfl:j=2:=oM;clear R s;go_wp2;refine HQ.o _ _ _ ⟨rfl,rfl,rfl,rfl,rfl,rfl,rfl⟩ rfl ?_ Hx.o;have:=Ho.o;unfold Yk at this;unfold Mi;rw[<-List.append_assoc];exact this
def vi(p q:Pl):Rat×Rat×Int:=
 if Ca p=true/\Ca q=true then (if (Ac (Da p) (La q)).lo<(Ac (Da p) (La q)).hi then ((Na (Ac (Da p) (La q))).2,(Na (Ac (Da p) (La q))).1,0)else (0,0,11))else (0,0,2)
def Pk(w:I)(o:Rat×Rat×Int)(e:Ending)(w':I):Prop:=∃r s,e=.returned (G #[r,s,Y Z o.2.2])/\Sa w' r o.1/\Sa w' s o.2.1/\Aa w w'
def rA w v1 v2 p q(h1:Fa w v1 p.shape)(h2:Fa w v2 q.shape)(k1:0<=p.skin)(k2:0<=q.skin)(aq:Gw w):Calls Tryz.prog 40 #[E (nc p v1),E (nc q v2)] w (Pk w (vi p q)):=by
 by_cases o:Ca p=true/\Ca q=true
 ·have HP:=ka (fun(W:I)(hW:Aa w W)=>Wm W v1 v2 p q (h1.f hW) (h2.f hW) k1 k2 (aq.ext hW) o.1 o.2);obtain⟨aS,aW,aU,rfl⟩:=Ja h1;obtain⟨aT,aX,aV,rfl⟩:=Ja h2;have hg:vi p q=if (Ac (Da p) (La q)).lo<(Ac (Da p) (La q)).hi then ((Na (Ac (Da p) (La q))).2,(Na (Ac (Da p) (La q))).1,0)else (0,0,11):=if_pos o;have HB:=ka o;obtain⟨R,hR⟩:=gX (Pk w (vi p q));rw[hR];rw[hg]at hR;have HQ:=ka hR;clear h1 h2 k1 k2 o hR aq hg;unfold nc at HP ⊢;go_in;go_upto_region 4 with (first|(go_at_call 103;refine cM (HP.o _ eA) ?_;rintro e w5 ⟨r1,r2,rfl,aw,ay,l⟩;obtain⟨a1,n1,c1,a2,n2,c2,a3,n3,c3,rfl⟩:=aw.forms;obtain⟨b1,m1,d1,b2,m2,d2,b3,m3,d3,rfl⟩:=ay.forms)|fail);obtain⟨a,k⟩:=gX (w.heap.size+1+1);obtain⟨b6,am⟩:=gX w5.heap.size;obtain⟨W6,c⟩:=gX ((w5.alloc (M #[.string p.name,O a1 n1 c1,Y Z p.depth,Y Z p.density,Y Z p.gx,Y Z p.gz,Y Z p.way,Y Z p.ax,Y Z p.az,Y .u8 p.skin,O a2 n2 c2,O a3 n3 c3] 128)).alloc (M #[.string q.name,O b1 m1 d1,Y Z q.depth,Y Z q.density,Y Z q.gx,Y Z q.gz,Y Z q.way,Y Z q.ax,Y Z q.az,Y .u8 q.skin,O b2 m2 d2,O b3 m3 d3] 128));have G4:RB W6 a 0:=by rw[<-c,<-k];exact(((RB.new (Sa.zero _) sM).ext ((eR _).alloc _)).ext l).ext (((eR _).alloc _).alloc _)
  have G5:RB W6 (a+1) 0:=by rw[<-c,<-k];exact((RB.new (Sa.zero _) sM).ext l).ext (((eR _).alloc _).alloc _)
  have al:Aa w5 W6:=by rw[<-c];exact((eR _).alloc _).alloc _
  have X6:Aa w W6:=((((((eR w).alloc _).alloc _).alloc _).alloc _).trans l).trans al;have K6:W6.heap[b6]?=C (M #[.string p.name,O a1 n1 c1,Y Z p.depth,Y Z p.density,Y Z p.gx,Y Z p.gz,Y Z p.way,Y Z p.ax,Y Z p.az,Y .u8 p.skin,O a2 n2 c2,O a3 n3 c3] 128 (0,0)):=by
   rw[<-c,<-am];exact((eR _).alloc _).e (aN w5 _)
  have K7:W6.heap[b6+1]?=C (M #[.string q.name,O b1 m1 d1,Y Z q.depth,Y Z q.density,Y Z q.gx,Y Z q.gz,Y Z q.way,Y Z q.ax,Y Z q.az,Y .u8 q.skin,O b2 m2 d2,O b3 m3 d3] 128 (0,0)):=by
   rw[<-c,<-am];exact Bc _ _ _ sM
  have z4:w.heap.size<=a:=oM;have z5:w.heap.size<=a+1:=oM;have ao:a≠a+1:=oM;obtain⟨s1,xl,xu,e1,-,au,aQ⟩:=aw.ext al;obtain⟨s2,yl,yu,e2,-,aP,aB⟩:=ay.ext al;unfold De at e1 e2;simp only[Value.agg.injEq,Array.mk.injEq,List.cons.injEq,and_true,true_and]at e1 e2;obtain⟨-,rfl,rfl⟩:=e1;obtain⟨-,rfl,rfl⟩:=e2;have lk:=Ye HB.o.1;have lq:=Ye HB.o.2;have j:=ka (fun(W:I)(hW:Aa W6 W)=>Uo W _ _ (Da p) (La q) (au.f hW) (aB.f hW) (List.length_pos_iff.2 lk.1.1) (List.length_pos_iff.2 lq.2.1));have ac:=ka (fun(W:I)(hW:Aa W6 W)=>Qr W _ _ (Ac (Da p) (La q)) (au.f hW) (aB.f hW) (Mm lk.1 lq.2));unfold Zi at j;unfold ni at j ac;have c6:=Ba K6 (i:=10) (u:=O a2 n2 c2) rfl;have c7:=Ba K7 (i:=11) (u:=O b3 m3 d3) rfl;rw[c,k,am];obtain⟨lo,av⟩:=gX ((Ac (Da p) (La q)).lo);obtain⟨hi,ar⟩:=gX ((Ac (Da p) (La q)).hi);rw[av,ar]at j ac;have hQ:=HQ.o;rw[av,ar]at hQ;clear c k am l HP K6 K7 aw ay al au aP aQ aB lk lq av ar HQ;by_cases ad:lo<hi
  ·rw[if_pos ad]at hQ;have HQ:=ka hQ;have ai:decide (lo<hi)=true:=decide_eq_true ad;rw[ai]at j;clear hQ ad ai;obtain⟨x,hx⟩:=gX ((Na (Ac (Da p) (La q))).1);obtain⟨g,hg⟩:=gX ((Na (Ac (Da p) (La q))).2);rw[hx,hg]at ac HQ;clear hx hg;go_upto_region 7 with (go_at_call 58;refine cM (j.o _ (eR _)) ?_;rintro e w7 ⟨rfl,ak⟩);obtain⟨aO,ah⟩:=gX w7.heap.size;obtain⟨W8,s⟩:=gX (w7.alloc (M #[O a2 n2 c2,O b3 m3 d3,Y Z lo,Y Z hi] 138));have aD:Aa w7 W8:=by rw[<-s];exact(eR _).alloc _
   have ae:W8.heap[aO]?=C (M #[O a2 n2 c2,O b3 m3 d3,Y Z lo,Y Z hi] 138 (0,0)):=by rw[<-s,<-ah];exact aN w7 _
   have f:=ak.trans aD;have HG:=ka (And.intro (G4.ext f) (G5.ext f));have aC:=ka (X6.trans f);have ap:=ka f;have k0:=Ba ae (i:=0) (u:=O a2 n2 c2) rfl;have k1:=Ba ae (i:=1) (u:=O b3 m3 d3) rfl;have k2:=Ba ae (i:=2) (u:=Y Z lo) rfl;have k3:=Ba ae (i:=3) (u:=Y Z hi) rfl;rw[s,ah];clear s ah aD f ae G4 G5 X6 c6 c7 ak j;go_upto_region 8 with (go_at_call 59;refine cM (ac.o _ ap.o) ?_;rintro e w9 ⟨v5,v6,rfl,aA,aj,an⟩;obtain⟨a5,m5,c5,s5,d5,n5,k5,rfl⟩:=aA.form;obtain⟨a6,m6,c6,s6,d6,n6,k6,rfl⟩:=aj.form;(have G4:=HG.o.1.ext an);(have G5:=HG.o.2.ext an);(obtain⟨_,_,_,_,_,_,_,y0,y1,y2,a4,a7,a8,_,_⟩:=G4.rd);(obtain⟨_,_,_,_,_,_,_,x0,x1,x2,aY,aZ,a0,_,_⟩:=G5.rd));clear y0 y1 y2 a4 a7 a8 x0 x1 x2 aY aZ a0 k0 k1 k2 k3;obtain⟨aL,af⟩:=gX (((w9.setCell ⟨a+1,0,X⟩ (O a5 m5 c5)).setCell ⟨a+1,1,X⟩ (N s5)).setCell ⟨a+1,2,X⟩ (O d5 n5 k5));obtain⟨g5,o5,aH,ba,e5⟩:=G5.put3 aA af;have g4:=o5 _ _ oM G4;have aj:=aj.keep aH;obtain⟨bb,ag⟩:=gX (((aL.setCell ⟨a,0,X⟩ (O a6 m6 c6)).setCell ⟨a,1,X⟩ (N s6)).setCell ⟨a,2,X⟩ (O d6 n6 k6));obtain⟨G4,o4,aR,a9,e4⟩:=g4.put3 aj ag;have G5:=o4 _ _ oM g5;have aM:=e4 w (e5 w (aC.o.trans an) z5) z4;rw[af,ag];clear af ag g5 o5 aH ba e5 g4 o4 aR a9 e4 aA aj HG ap aC an ac;obtain⟨pa,pm,P,ps,z,ab,aa,p0,p1,p2,aI,aJ,aK,pz,t⟩:=G4.rd;obtain⟨ea,em,ec,es,m,r,n,e0,e1,e2,aE,aF,aG,ez,y⟩:=G5.rd;refine Mh (fun i=>decide (2<i)) (Ea [(⟨a,0,X⟩,O pa pm P),(⟨a,1,X⟩,N ps),(⟨a,2,X⟩,O z ab aa),(⟨a+1,0,X⟩,O ea em ec),(⟨a+1,1,X⟩,N es),(⟨a+1,2,X⟩,O m r n)]) kM ?_ (fun b=>?_)
   ·exact cA
   refine sN 0 ?_
   iterate 2 refine Wh ?_
   refine oN ?_;refine Kc (i:=2) fun K d=>?_;go_simp;refine kO d (fun _=>?_) (fun b=>?_)
   ·exact cA
   clear d K;have b:=b rfl;refine Kc (i:=3) fun K d=>?_;go_simp;refine kO d (fun h=>nomatch h) (fun b=>?_);clear d K;refine Kc (i:=4) fun K d=>?_;go_simp;refine kO d (fun h=>nomatch h) (fun b=>?_);clear d K;refine Lb kM ?_ _;go_wp2;refine bR (v:=G #[E #[O pa pm P,N ps,O z ab aa],E #[O ea em ec,N es,O m r n],Y Z 0]) (by simp[results,Tryz.results40,go_sem,p0,p1,p2,e0,e1,e2]) rfl ?_;obtain⟨P1,P2,P3,P4,P5,P6⟩:=RB.copy2 G4 G5 ao t y rfl rfl;rw[<-HQ.o];exact⟨_,_,rfl,(t.keep P4).ext (eR _).drew,(y.keep P4).ext (eR _).drew,(P6 w aM z4 z5).drew⟩
  ·rw[if_neg ad]at hQ;have HQ:=ka hQ;have ai:decide (lo<hi)=false:=decide_eq_false ad;rw[ai]at j;clear hQ ad ai ac;go_upto_region 6 with (go_at_call 58;refine cM (j.o _ (eR _)) ?_;rintro e w7 ⟨rfl,ak⟩);obtain⟨W8,s⟩:=gX (w7.alloc (M #[O a2 n2 c2,O b3 m3 d3,Y Z lo,Y Z hi] 138));have f:Aa W6 W8:=by rw[<-s];exact ak.trans ((eR _).alloc _)
   have G4:=G4.ext f;have G5:=G5.ext f;have X8:=X6.trans f;rw[s];clear s f X6 ak c6 c7 j;obtain⟨pa,pm,P,ps,z,ab,aa,p0,p1,p2,aI,aJ,aK,pz,t⟩:=G4.rd;obtain⟨ea,em,ec,es,m,r,n,e0,e1,e2,aE,aF,aG,ez,y⟩:=G5.rd;refine Mh (fun i=>decide (2<i)) (Ea [(⟨a,0,X⟩,O pa pm P),(⟨a,1,X⟩,N ps),(⟨a,2,X⟩,O z ab aa),(⟨a+1,0,X⟩,O ea em ec),(⟨a+1,1,X⟩,N es),(⟨a+1,2,X⟩,O m r n)]) kM ?_ (fun b=>?_)
   ·exact cA
   refine sN 0 ?_
   iterate 2 refine Wh ?_
   refine oN ?_;refine Kc (i:=2) fun K d=>?_;go_simp;refine kO d (fun _=>?_) (fun b=>?_)
   ·exact cA
   clear d K;have b:=b rfl;refine Kc (i:=3) fun K d=>?_;go_simp;refine kO d (fun h=>nomatch h) (fun b=>?_);clear d K;refine Kc (i:=4) fun K d=>?_;go_simp;refine kO d (fun h=>nomatch h) (fun b=>?_);clear d K;refine Lb kM ?_ _;go_wp2;refine bR (v:=G #[E #[O pa pm P,N ps,O z ab aa],E #[O ea em ec,N es,O m r n],Y Z 11]) (by simp[results,Tryz.results40,go_sem,p0,p1,p2,e0,e1,e2]) rfl ?_;obtain⟨P1,P2,P3,P4,P5,P6⟩:=RB.copy2 G4 G5 ao t y rfl rfl;rw[<-HQ.o];exact⟨_,_,rfl,(t.keep P4).ext (eR _).drew,(y.keep P4).ext (eR _).drew,(P6 w X8 z4 z5).drew⟩
 ·have HP:=ka (fun(W:I)(hW:Aa w W)=>St W v1 v2 p q (h1.f hW) (h2.f hW) k1 k2 o);obtain⟨aS,aW,aU,rfl⟩:=Ja h1;obtain⟨aT,aX,aV,rfl⟩:=Ja h2;have hg:vi p q=(0,0,2):=if_neg o;rw[hg];obtain⟨R,hR⟩:=gX (Pk w (0,0,2));rw[hR];have HQ:=ka hR;clear h1 h2 k1 k2 o hR aq hg;unfold nc at HP ⊢;go_in;go_upto_region 3 with (first|(go_at_call 103;refine cM (HP.o _ eA) ?_;rintro e w5 ⟨rfl,l⟩)|fail);obtain⟨a,k⟩:=gX (w.heap.size+1+1);obtain⟨W6,c⟩:=gX ((w5.alloc (M #[.string ⟨#[]⟩,O X 0 0,Y Z 0,Y Z 0,Y Z 0,Y Z 0,Y Z 0,Y Z 0,Y Z 0,Y .u8 0,O X 0 0,O X 0 0] 128)).alloc (M #[.string ⟨#[]⟩,O X 0 0,Y Z 0,Y Z 0,Y Z 0,Y Z 0,Y Z 0,Y Z 0,Y Z 0,Y .u8 0,O X 0 0,O X 0 0] 128));have G4:RB W6 a 0:=by rw[<-c,<-k];exact(((RB.new (Sa.zero _) sM).ext ((eR _).alloc _)).ext l).ext (((eR _).alloc _).alloc _)
  have G5:RB W6 (a+1) 0:=by rw[<-c,<-k];exact((RB.new (Sa.zero _) sM).ext l).ext (((eR _).alloc _).alloc _)
  have X6:Aa w W6:=by rw[<-c];exact(((((((eR w).alloc _).alloc _).alloc _).alloc _).trans l).alloc _).alloc _
  have z4:w.heap.size<=a:=oM;have z5:w.heap.size<=a+1:=oM;have ao:a≠a+1:=oM;rw[c,k];clear c k l HP;obtain⟨pa,pm,P,ps,z,ab,aa,p0,p1,p2,aI,aJ,aK,pz,t⟩:=G4.rd;obtain⟨ea,em,ec,es,m,r,n,e0,e1,e2,aE,aF,aG,ez,y⟩:=G5.rd;refine Mh (fun i=>decide (2<i)) (Ea [(⟨a,0,X⟩,O pa pm P),(⟨a,1,X⟩,N ps),(⟨a,2,X⟩,O z ab aa),(⟨a+1,0,X⟩,O ea em ec),(⟨a+1,1,X⟩,N es),(⟨a+1,2,X⟩,O m r n)]) kM ?_ (fun b=>?_)
  ·exact cA
  refine sN 0 ?_
  iterate 2 refine Wh ?_
  refine oN ?_;refine Kc (i:=2) fun K d=>?_;go_simp;refine kO d (fun _=>?_) (fun b=>?_)
  ·exact cA
  clear d K;have b:=b rfl;refine Kc (i:=3) fun K d=>?_;go_simp;refine kO d (fun h=>nomatch h) (fun b=>?_);clear d K;refine Kc (i:=4) fun K d=>?_;go_simp;refine kO d (fun h=>nomatch h) (fun b=>?_);clear d K;refine Lb kM ?_ _;go_wp2;refine bR (v:=G #[E #[O pa pm P,N ps,O z ab aa],E #[O ea em ec,N es,O m r n],Y Z 2]) (by simp[results,Tryz.results40,go_sem,p0,p1,p2,e0,e1,e2]) rfl ?_;obtain⟨P1,P2,P3,P4,P5,P6⟩:=RB.copy2 G4 G5 ao t y rfl rfl;rw[<-HQ.o];exact⟨_,_,rfl,(t.keep P4).ext (eR _).drew,(y.keep P4).ext (eR _).drew,(P6 w X6 z4 z5).drew⟩
end
section
open Go.RowKit Go.Shelf Go.Sort
attribute [local go_sem] Oper.semAt_some
def Cs{P}{f:Nat}{b w}{x p:Int}(h:x.sign=p)(k:Calls P f b w fun e a=>e=.returned (Y Z x.sign)/\Aa w a):Calls P f b w fun e a=>e=.returned (Y Z p)/\Aa w a:=by subst h;exact k
def vh(p q:Rat):Rat:=if yb q p<0 then q else p
def yh(p q:Rat):Rat:=if 0<yb q p then q else p
def Mn(a:Rat->Rat->Rat)(w:I)(p q:Rat)(h:Nat)(t4:F)(W:I):Prop:=
 ∃i:Nat,t4=Y Z i/\((i=0/\QX W (h+1) 0)\/(i=1/\QX W (h+1) p)\/(i=2/\QX W (h+1) (a p q)))/\Aa w W/\W.heap[h]?=C (M #[Y Z 0,O X 0 0,Y Z 0,O X 0 0] 68 (0,0))
def GJ w b p q s1 t1 s2 t2 a1 e1 a2 e2 m1 c1 i1 j1 m2 c2 i2 j2(hC:Ea [(⟨b,0,X⟩,Y Z s1),(⟨b,1,X⟩,O a1 m1 c1),(⟨b,2,X⟩,Y Z t1),(⟨b,3,X⟩,O e1 i1 j1),(⟨b,4,X⟩,Y Z s2),(⟨b,5,X⟩,O a2 m2 c2),(⟨b,6,X⟩,Y Z t2),(⟨b,7,X⟩,O e2 i2 j2)] w)(hp:Gb w (E #[Y Z s1,O a1 m1 c1,Y Z t1,O e1 i1 j1]) p)(hq:Gb w (E #[Y Z s2,O a2 m2 c2,Y Z t2,O e2 i2 j2]) q)(kp:Rb Xc p)(kq:Rb Xc q):Calls Tryz.prog 68 #[O (C ⟨b,0,X⟩) 2 2] w (Lc w (vh p q)):=by
 have HP:=ka hp;have HQ:=ka hq;have aa:=ka kp;have ab:=ka kq;have HC:=ka hC;have hb:b<w.heap.size:=World.block_lt_of_cell? w _ hC.1;clear hp hq kp kq hC;go_in;go_wp2;obtain⟨W0,f⟩:=gX ((w.alloc (M #[Y Z 0,O X 0 0,Y Z 0,O X 0 0] 68)).alloc (M #[Y Z 0,O X 0 0,Y Z 0,O X 0 0] 68));have X0:Aa w W0:=by rw[<-f];exact((eR w).alloc _).alloc _
 have k0:W0.heap[w.heap.size]?=C (Obj.cells #[Value.int Z 0,Value.slice X 0 0,Value.int Z 0,Value.slice X 0 0] 68 (0,0)):=by rw[<-f];exact((eR _).alloc _).e (aN _ _)
 have k1:QX W0 (w.heap.size+1) 0:=by rw[<-f];exact QX.new (Gb.zero _) sM
 rw[f];clear f;go_loopw [4] (Mn vh w p q w.heap.size) (fun t4 _=>2-(intOf t4).toNat)
 case atStart=>exact⟨0,rfl,.inl ⟨rfl,k1⟩,X0,k0⟩
 case round =>
  clear X0 k0 k1;obtain⟨i,rfl,hi,k,hk⟩:=hrel;have hc:=cE HC.o k;have ad:b<wr.heap.size:=k.lt hb;have g:=ka hk;clear hk;rcases hi with ⟨rfl,l⟩|⟨rfl,l⟩|⟨rfl,l⟩
  ·have HX:=ka l;obtain⟨s,a,m,c,t,e,i,j,y0,y1,y2,y3,yf,yz,o⟩:=l
    |>.rd
   clear o;have ne:¬w.heap.size+1=b:=oM;go_wp2;refine Uc [(⟨w.heap.size+1,0,X⟩,Y Z s)] cA fun n=>?_;refine sN 0 ?_
   iterate 3 refine Bb ?_
   iterate 7 refine Nf ?_
   refine Bb ?_;refine oN ?_;refine Sb ?_;obtain⟨d0,d1,d2,d3,_⟩:=hc;go_wp2;go_roundw
   case rel=>exact⟨1,by go_num,.inr (.inl ⟨rfl,HX.o.drew.put (HP.o.ext (k.trans (eR _).drew))⟩),Bj (k.trans (eR _).drew) (Nat.le_succ _) _ _ _ _,Xx g.o oM _ _ _ _⟩
   case measure=>simp[intOf]
  ·have HX:=ka l;obtain⟨s,a,m,c,t,e,i,j,y0,y1,y2,y3,yf,yz,o⟩:=l
    |>.rd
   have HI:=ka o;clear o;have ne:¬w.heap.size+1=b:=oM;obtain⟨r,hr⟩:=gX (yb q p);have HM:=ka (show vh p q=if r<0 then q else p by unfold vh;rw[hr]);have y:=ka (fun(W:I)(hW:Aa wr W)=>uF W (E #[Y Z s2,O a2 m2 c2,Y Z t2,O e2 i2 j2]) (E #[Y Z s,O a m c,Y Z t,O e i j]) q p (HQ.o.ext (k.trans hW)) (HI.o.ext hW) ab.o aa.o);rw[hr]at y;clear hr;obtain⟨d0,d1,d2,d3,d4,d5,d6,d7,_⟩:=hc;go_wp2;refine Uc [(⟨w.heap.size+1,0,X⟩,Y Z s),(⟨w.heap.size+1,1,X⟩,O a m c),(⟨w.heap.size+1,2,X⟩,Y Z t),(⟨w.heap.size+1,3,X⟩,O e i j),(⟨b,4,X⟩,Y Z s2),(⟨b,5,X⟩,O a2 m2 c2),(⟨b,6,X⟩,Y Z t2),(⟨b,7,X⟩,O e2 i2 j2)] cA fun n=>?_;refine sN 0 ?_
   iterate 8 refine Bb ?_
   refine oN ?_;refine Vc (i:=8) fun K hK=>?_;go_simp;refine cM (y.o _ ((eR wr).drew)) ?_;rintro ee w5 ⟨rfl,R⟩;go_wp2;refine kO hK (cE n R) (fun n=>?_);clear hK K;refine sN 9 ?_
   iterate 2 refine Bb ?_
   refine oN ?_;refine Sb ?_;have d:Aa wr w5:=(eR wr).drew.trans R;replace d4:=d.d d4;replace d5:=d.d d5;replace d6:=d.d d6;replace d7:=d.d d7;have x:=HX.o.ext d;have z:=ka x;have ae:=d.lt ad;clear d0 d1 d2 d3 y0 y1 y2 y3 yf yz;obtain⟨_,_,_,_,_,_,_,_,y0,y1,y2,y3,yf,yz,-⟩:=x.rd;clear x;by_cases h9:r<0
   ·(have e9:vh p q=q:=by rw[HM.o,if_pos h9]);go_wp2;go_roundw
    case rel=>exact⟨2,by go_num,.inr (.inr ⟨rfl,by rw[e9];exact z.o.put (HQ.o.ext (k.trans d))⟩),Bj (k.trans d) (Nat.le_succ _) _ _ _ _,Xx (d.e g.o) oM _ _ _ _⟩
    case measure=>simp[intOf]
   ·(have e9:vh p q=p:=by rw[HM.o,if_neg h9]);go_wp2;go_roundw
    case rel=>exact⟨2,by go_num,.inr (.inr ⟨rfl,by rw[e9];exact z.o⟩),k.trans d,d.e g.o⟩
    case measure=>simp[intOf]
  ·have HX:=ka l;obtain⟨s,a,m,c,t,e,i,j,y0,y1,y2,y3,yf,yz,o⟩:=l
    |>.rd
   have HI:=ka o;clear o hc;have r0:=Ba g.o (i:=0) (u:=Y Z 0) rfl;have r1:=Ba g.o (i:=1) (u:=O X 0 0) rfl;have r2:=Ba g.o (i:=2) (u:=Y Z 0) rfl;have r3:=Ba g.o (i:=3) (u:=O X 0 0) rfl;have rf:=Ya g.o;have zr:=Jb g.o;have P:QX wr w.heap.size 0:=⟨_,_,_,_,_,_,_,_,g.o,Gb.zero _⟩;have ac:=ka P;clear P;go_wp2;exact bR (v:=E #[Y Z s,O a m c,Y Z t,O e i j]) (by simp[results,Tryz.results68,go_sem,zr,r0,r1,r2,r3,rf]) rfl ⟨_,rfl,HI.o.keep (Ej [_,_,_,_] 0 ac.o.not),Bj k (nE _) _ _ _ _⟩
def IJ w b p q s1 t1 s2 t2 a1 e1 a2 e2 m1 c1 i1 j1 m2 c2 i2 j2(hC:Ea [(⟨b,0,X⟩,Y Z s1),(⟨b,1,X⟩,O a1 m1 c1),(⟨b,2,X⟩,Y Z t1),(⟨b,3,X⟩,O e1 i1 j1),(⟨b,4,X⟩,Y Z s2),(⟨b,5,X⟩,O a2 m2 c2),(⟨b,6,X⟩,Y Z t2),(⟨b,7,X⟩,O e2 i2 j2)] w)(hp:Gb w (E #[Y Z s1,O a1 m1 c1,Y Z t1,O e1 i1 j1]) p)(hq:Gb w (E #[Y Z s2,O a2 m2 c2,Y Z t2,O e2 i2 j2]) q)(kp:Rb Xc p)(kq:Rb Xc q):Calls Tryz.prog 122 #[O (C ⟨b,0,X⟩) 2 2] w (Lc w (yh p q)):=by
 have HP:=ka hp;have HQ:=ka hq;have aa:=ka kp;have ab:=ka kq;have HC:=ka hC;have hb:b<w.heap.size:=World.block_lt_of_cell? w _ hC.1;clear hp hq kp kq hC;go_in;go_wp2;obtain⟨W0,f⟩:=gX ((w.alloc (M #[Y Z 0,O X 0 0,Y Z 0,O X 0 0] 68)).alloc (M #[Y Z 0,O X 0 0,Y Z 0,O X 0 0] 68));have X0:Aa w W0:=by rw[<-f];exact((eR w).alloc _).alloc _
 have k0:W0.heap[w.heap.size]?=C (Obj.cells #[Value.int Z 0,Value.slice X 0 0,Value.int Z 0,Value.slice X 0 0] 68 (0,0)):=by rw[<-f];exact((eR _).alloc _).e (aN _ _)
 have k1:QX W0 (w.heap.size+1) 0:=by rw[<-f];exact QX.new (Gb.zero _) sM
 rw[f];clear f;go_loopw [4] (Mn yh w p q w.heap.size) (fun t4 _=>2-(intOf t4).toNat)
 case atStart=>exact⟨0,rfl,.inl ⟨rfl,k1⟩,X0,k0⟩
 case round =>
  clear X0 k0 k1;obtain⟨i,rfl,hi,k,hk⟩:=hrel;have hc:=cE HC.o k;have ad:b<wr.heap.size:=k.lt hb;have g:=ka hk;clear hk;rcases hi with ⟨rfl,l⟩|⟨rfl,l⟩|⟨rfl,l⟩
  ·have HX:=ka l;obtain⟨s,a,m,c,t,e,i,j,y0,y1,y2,y3,yf,yz,o⟩:=l
    |>.rd
   clear o;have ne:¬w.heap.size+1=b:=oM;go_wp2;refine Uc [(⟨w.heap.size+1,0,X⟩,Y Z s)] cA fun n=>?_;refine sN 0 ?_
   iterate 3 refine Bb ?_
   iterate 7 refine Nf ?_
   refine Bb ?_;refine oN ?_;refine Sb ?_;obtain⟨d0,d1,d2,d3,_⟩:=hc;go_wp2;go_roundw
   case rel=>exact⟨1,by go_num,.inr (.inl ⟨rfl,HX.o.drew.put (HP.o.ext (k.trans (eR _).drew))⟩),Bj (k.trans (eR _).drew) (Nat.le_succ _) _ _ _ _,Xx g.o oM _ _ _ _⟩
   case measure=>simp[intOf]
  ·have HX:=ka l;obtain⟨s,a,m,c,t,e,i,j,y0,y1,y2,y3,yf,yz,o⟩:=l
    |>.rd
   have HI:=ka o;clear o;have ne:¬w.heap.size+1=b:=oM;obtain⟨r,hr⟩:=gX (yb q p);have HM:=ka (show yh p q=if 0<r then q else p by unfold yh;rw[hr]);have y:=ka (fun(W:I)(hW:Aa wr W)=>uF W (E #[Y Z s2,O a2 m2 c2,Y Z t2,O e2 i2 j2]) (E #[Y Z s,O a m c,Y Z t,O e i j]) q p (HQ.o.ext (k.trans hW)) (HI.o.ext hW) ab.o aa.o);rw[hr]at y;clear hr;obtain⟨d0,d1,d2,d3,d4,d5,d6,d7,_⟩:=hc;go_wp2;refine Uc [(⟨w.heap.size+1,0,X⟩,Y Z s),(⟨w.heap.size+1,1,X⟩,O a m c),(⟨w.heap.size+1,2,X⟩,Y Z t),(⟨w.heap.size+1,3,X⟩,O e i j),(⟨b,4,X⟩,Y Z s2),(⟨b,5,X⟩,O a2 m2 c2),(⟨b,6,X⟩,Y Z t2),(⟨b,7,X⟩,O e2 i2 j2)] cA fun n=>?_;refine sN 0 ?_
   iterate 8 refine Bb ?_
   refine oN ?_;refine Vc (i:=8) fun K hK=>?_;go_simp;refine cM (y.o _ ((eR wr).drew)) ?_;rintro ee w5 ⟨rfl,R⟩;go_wp2;refine kO hK (cE n R) (fun n=>?_);clear hK K;refine sN 9 ?_
   iterate 2 refine Bb ?_
   refine oN ?_;refine Sb ?_;have d:Aa wr w5:=(eR wr).drew.trans R;replace d4:=d.d d4;replace d5:=d.d d5;replace d6:=d.d d6;replace d7:=d.d d7;have x:=HX.o.ext d;have z:=ka x;have ae:=d.lt ad;clear d0 d1 d2 d3 y0 y1 y2 y3 yf yz;obtain⟨_,_,_,_,_,_,_,_,y0,y1,y2,y3,yf,yz,-⟩:=x.rd;clear x;by_cases h9:0<r
   ·(have e9:yh p q=q:=by rw[HM.o,if_pos h9]);go_wp2;go_roundw
    case rel=>exact⟨2,by go_num,.inr (.inr ⟨rfl,by rw[e9];exact z.o.put (HQ.o.ext (k.trans d))⟩),Bj (k.trans d) (Nat.le_succ _) _ _ _ _,Xx (d.e g.o) oM _ _ _ _⟩
    case measure=>simp[intOf]
   ·(have e9:yh p q=p:=by rw[HM.o,if_neg h9]);go_wp2;go_roundw
    case rel=>exact⟨2,by go_num,.inr (.inr ⟨rfl,by rw[e9];exact z.o⟩),k.trans d,d.e g.o⟩
    case measure=>simp[intOf]
  ·have HX:=ka l;obtain⟨s,a,m,c,t,e,i,j,y0,y1,y2,y3,yf,yz,o⟩:=l
    |>.rd
   have HI:=ka o;clear o hc;have r0:=Ba g.o (i:=0) (u:=Y Z 0) rfl;have r1:=Ba g.o (i:=1) (u:=O X 0 0) rfl;have r2:=Ba g.o (i:=2) (u:=Y Z 0) rfl;have r3:=Ba g.o (i:=3) (u:=O X 0 0) rfl;have rf:=Ya g.o;have zr:=Jb g.o;have P:QX wr w.heap.size 0:=⟨_,_,_,_,_,_,_,_,g.o,Gb.zero _⟩;have ac:=ka P;clear P;go_wp2;exact bR (v:=E #[Y Z s,O a m c,Y Z t,O e i j]) (by simp[results,Tryz.results122,go_sem,zr,r0,r1,r2,r3,rf]) rfl ⟨_,rfl,HI.o.keep (Ej [_,_,_,_] 0 ac.o.not),Bj k (nE _) _ _ _ _⟩
end
section
open Go.RowKit Go.Shelf Go.Sort
def Jz o x:Dh o x=(vh o.1 x,yh o.2 x):=by
 unfold Dh vh yh;have a:Sc (-1) [o.1,x]=if yb x o.1<0 then x else o.1:=by
  show Ed (-1) o.1 x=_;unfold Ed;simp only[oB,Kr]
 have b:Sc 1 [o.2,x]=if 0<yb x o.2 then x else o.2:=by
  show Ed 1 o.2 x=_;unfold Ed;simp only[nB,Ox]
 rw[a,b]
def yj.uniq{o c S}(h:yj o S)(i:yj c S):o=c:=by obtain⟨d,e,a⟩:=h;obtain⟨f,g,b⟩:=i;exact Prod.ext (Rat.le_antisymm (a _ f).1 (b _ d).1) (Rat.le_antisymm (b _ e).2 (a _ g).2)
end
section
open Go.RowKit Go.Shelf Go.Sort Go.Lib
attribute [local go_sem] Oper.semAt_some
def re:Code->List Code
 | .seq a b=>re a++re b
 | .cond _ a b=>re a++re b
 | .block _ b=>re b
 | .loop b=>re b
 | .rangeFunc _ _ a b=>re a++re b
 | .scope b=>re b
 | .region i o d=>[.region i o d]
 | _=>[]
def Ph(f:Func)(k:Nat):Code:=match f.body with|some c=>(re c).getD k .skip|none=>.skip
def oK W V b p q r t s u c f d g n e j l o c2 k m(a:V.heap[b]?=C (M #[Y Z r,O c n e,Y Z t,O f j l,Y Z s,O d o c2,Y Z u,O g k m] 68 (0,0)))(v:Aa W V)(w:Gb W (E #[Y Z r,O c n e,Y Z t,O f j l]) p)(x:Gb W (E #[Y Z s,O d o c2,Y Z u,O g k m]) q)(y:Rb Xc p)(z:Rb Xc q):Calls Tryz.prog 68 #[O (C ⟨b,0,X⟩) 2 2] V (Lc V (vh p q)):=
 GJ V b p q r t s u c f d g n e j l o c2 k m ⟨Ba a (i:=0) rfl,Ba a (i:=1) rfl,Ba a (i:=2) rfl,Ba a (i:=3) rfl,Ba a (i:=4) rfl,Ba a (i:=5) rfl,Ba a (i:=6) rfl,Ba a (i:=7) rfl,trivial⟩ (w.ext v) (x.ext v) y z
def pK W V b p q r t s u c f d g n e j l o c2 k m(a:V.heap[b]?=C (M #[Y Z r,O c n e,Y Z t,O f j l,Y Z s,O d o c2,Y Z u,O g k m] 68 (0,0)))(v:Aa W V)(w:Gb W (E #[Y Z r,O c n e,Y Z t,O f j l]) p)(x:Gb W (E #[Y Z s,O d o c2,Y Z u,O g k m]) q)(y:Rb Xc p)(z:Rb Xc q):Calls Tryz.prog 122 #[O (C ⟨b,0,X⟩) 2 2] V (Lc V (yh p q)):=
 IJ V b p q r t s u c f d g n e j l o c2 k m ⟨Ba a (i:=0) rfl,Ba a (i:=1) rfl,Ba a (i:=2) rfl,Ba a (i:=3) rfl,Ba a (i:=4) rfl,Ba a (i:=5) rfl,Ba a (i:=6) rfl,Ba a (i:=7) rfl,trivial⟩ (w.ext v) (x.ext v) y z
def Eq(a c:Nat)(W W':I):Prop:=(∀v,Aa v W->v.heap.size<=a->v.heap.size<=c->Aa v W')/\Ia 3 W W'/\∀b o,b≠a->b≠c->W.heap[b]?=C o->W'.heap[b]?=C o
