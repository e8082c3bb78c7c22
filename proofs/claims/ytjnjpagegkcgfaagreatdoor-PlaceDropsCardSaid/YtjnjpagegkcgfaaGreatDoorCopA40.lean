/- Part 41: contracts of what the law calls. -/
import Derived.Test.YtjnjpagegkcgfaaGreatDoorCopA39
import Derived.Test.YtjnjpagegkcgfaaGreatDoorCopA34
set_option maxRecDepth 1000000
set_option maxHeartbeats 16000000
set_option linter.unusedSimpArgs false
set_option linter.unusedVariables false
open Go.Value renaming slice→O,int→Y,bool→X
open Go.IntKind renaming i64→Z
open Go renaming World→V,Value→I
open Option renaming some→J,none→M
namespace Go.Proofs.YtjnjpagegkcgfaaGreatDoor.Cop
section
open Go.RowKit Go.Shelf Go.Sort Go.Lib
theorem PBe.keep {w w':V} {c:List I} {b:Be} (h:PBe w c b) (k:KeepT 2 w w'):PBe w' c b:=by
 obtain⟨f,t,a,d,e⟩:=h;exact⟨f,t,a,d.keep k,e.keep k⟩
def OwnBe (w:V) (base:Nat) (v:I) (a:List Be):Prop:=∃cs,OwnC 79 17 w base v cs∧cs.length=a.length∧∀(i:Nat) c b,cs[i]?=J c→a[i]?=J b→PBe w c b
theorem OwnBe.ext {w w':V} {base:Nat} {v:I} {a:List Be} (h:OwnBe w base v a) (k:Ext w w'):OwnBe w' base v a:=by
 obtain⟨d,e,f,g⟩:=h;exact⟨d,e.ext k,f,fun i c b l j=>(g i c b l j).ext k⟩
theorem OwnBe.nil (w:V) (base:Nat):OwnBe w base (O M 0 0) []:=⟨[],OwnC.nil _ _ _ _,rfl,fun i c b a=>by simp at a⟩
theorem OwnBe.form3 {w:V} {base:Nat} {v:I} {b:List Be} (h:OwnBe w base v b):∃a n c,v=O a n c:=by obtain⟨e,d,_⟩:=h;exact d.form3
theorem OwnBe.app {wr g:V} {base:Nat} {l:I} {f:List Be} {cs:List (List I)} {d:List I} {b:Be} (h:OwnC 79 17 g base l (cs++[d])) (j:cs.length=f.length)
  (k:∀(i:Nat) c b,cs[i]?=J c→f[i]?=J b→PBe wr c b) (p:KeepT 2 wr g) (n:PBe g d b):OwnBe g base l (f++[b]):=by
 refine⟨cs++[d],h,by simp [j],fun i c m a e=>?_⟩
 by_cases o:i<cs.length
 ·rw [List.getElem?_append_left o]at a
  rw [List.getElem?_append_left oM]at e;exact(k i c m a e).keep p
 ·rw [List.getElem?_append_right oM]at a e
  have q:=(lS.1 a).1;simp at q;have:i-cs.length=0:=oM
  rw [this]at a;rw [show i-f.length=0 by omega]at e;simp at a e;subst a e;exact n
theorem znr:(Tryz.prog.info? 79).map (fun i=>(i.zero,i.size,i.bytes))=J (J (.agg be0),17,264):=kM
def bedAt (g:List (Int×Int)) (ps:List Pl) (a:Nat) (p:Pl) (c b:Int):Option Be:=
 if (a:Int)=b then M else if b<0 then bedO p g b c else match ps[b.toNat]? with|none=>M|some q=>if meetB p q=true then bedO p (upP2 q) b c else M
def bedsN (g:List (Int×Int)) (ps:List Pl) (a:Nat) (p:Pl) (b:Int) (n:Nat):List Be:=(List.range n).filterMap fun k:Nat=>bedAt g ps a p b ((k:Int)-1)
theorem zhX (g:List (Int×Int)) (ps:List Pl) (a:Nat) (p:Pl) (c:Int) (n:Nat):bedsN g ps a p c (n+1)=bedsN g ps a p c n++(match bedAt g ps a p c ((n:Int)-1)with|none=>[]|some b=>[b]):=by
 unfold bedsN;rw [List.range_succ,List.filterMap_append]
 congr 1
 cases h:bedAt g ps a p c ((n:Int)-1)<;>simp [h]
theorem ziT (g:List (Int×Int)) (ps:List Pl) (a:Nat) (p:Pl) (b:Int) (n:Nat):(bedsN g ps a p b n).length≤n:=by
 unfold bedsN;have:=List.length_filterMap_le (fun k:Nat=>bedAt g ps a p b ((k:Int)-1)) (List.range n)
 simpa using this
theorem zmY (w:V) (d f:I) (g:List (Int×Int)) (ps:List Pl) (a:Nat) (p:Pl) (b c:Int) (i:IsPts w d g) (k:IsLas w f ps) (m:ps[a]?=J p) (n:groundB g=true) (j:∀q∈ps,placedOk q=true) (y : -1≤b) (z:b<ps.length)
  (v:Bd 104000 c) :
  Calls Tryz.prog 72 #[.agg #[d,f],Y Z a,Y Z b,Y Z c] w (RetBe w (bedAt g ps a p c b)):=by
 have o:=j p (lM m);unfold bedAt
 by_cases l:(a:Int)=b
 ·rw [if_pos l,←l]
  exact zk5 w d f ps a p c (form3 i) k m
 rw [if_neg l]
 by_cases t:b<0
 ·rw [if_pos t]
  exact zmk w d f ps a p b c g (form3 i) k m (.inl t) (zaj o).1 (zaB n) (zjv n) (fun W u=>(ziC W d f b t (form3 i) (form3 k)).mono (by rintro e D ⟨rfl,x⟩;exact⟨_,rfl,i.ext' (u.trans x),x⟩)) v
 rw [if_neg t];obtain⟨q,r⟩:∃q,ps[b.toNat]?=J q:=⟨ps[b.toNat]' oM,gE _⟩;have s:=lM r;simp only [r];have h:b=((b.toNat:Nat):Int):=oM
 cases hmt:meetB p q with
 | false =>
  rw [if_neg sM];exact ziS w d f ps a p b c (form3 i) k m b.toNat h q r hmt l
 | true =>
 rw [if_pos rfl];refine zmk w d f ps a p b c (upP2 q) (form3 i) k m (.inr ⟨b.toNat,q,h,r,hmt,l⟩) (zaj o).1 (zaj (j q s)).2 (zn5 (j q s)) (fun W u=>?_) v;have:=zkO W d f ps b.toNat q (form3 i) (k.ext' u) r;rw [←h]at this;exact this
theorem OwnBe.lt {w:V} {base:Nat} {v:I} {a:List Be} (h:OwnBe w base v a):∀j,v.ownBlock=J j→base≤j∧j<w.heap.size:=by obtain⟨c,b,_⟩:=h;exact b.lt
theorem OwnBe.mono {w:V} {base b':Nat} {v:I} {a:List Be} (h:OwnBe w base v a) (k:b'≤base):OwnBe w b' v a:=by obtain⟨b,c,d,e⟩:=h;exact⟨b,c.mono k,d,e⟩
def RetBs (w:V) (a:List Be) (e:Ending) (w':V):Prop:=∃v,e = .returned (.tuple #[v,Y Z 0])∧OwnBe w' w.heap.size v a∧Ext w w'
def BdS (w:V) (a:Nat) (f g:I) (ps:List Pl) (b:Nat→List Be) (e:Nat) (c d:I) (W:V):Prop:=
 ∃i:Nat,i≤ps.length+1∧d=Y Z ((i:Int)-1)∧e=ps.length+1-i∧Ext w W∧a+1≤W.heap.size∧W.heap[a]?=J (.cells #[f,g] 124 (0,0))∧OwnBe W (a+1) c (b i)
theorem PBe.form {w:V} {c:List I} {b:Be} (h:PBe w c b):∃a m c1 s a2 m2 c2 b1 n k t b2 n2 k2 a' m' c' s' a2' m2' c2' b' n' k' t' b2' n2' k2',c=[Y Z b.num,O a m c1,X s,O a2 m2 c2,O b1 n k,X t,O b2 n2 k2,O a' m' c',X s',O a2' m2' c2',O b' n' k',X t',O b2' n2' k2',Y Z b.d1.1,Y Z b.d1.2,Y Z b.d2.1,Y Z b.d2.2]:=by
 obtain⟨f,t,rfl,⟨a,m,c,s,a2,m2,c2,b1,n,k,d,b2,n2,k2,i,_,_⟩,a',m',c',s',a2',m2',c2',b',n',k',t',b2',n2',k2',j,_,_⟩:=h;have e:f=[O a m c,X s,O a2 m2 c2,O b1 n k,X d,O b2 n2 k2]:=by simpa using i
 have g:t=[O a' m' c',X s',O a2' m2' c2',O b' n' k',X t',O b2' n2' k2']:=by simpa using j
 subst e g;exact⟨a,m,c,s,a2,m2,c2,b1,n,k,d,b2,n2,k2,a',m',c',s',a2',m2',c2',b',n',k',t',b2',n2',k2',rfl⟩
theorem bed17 {W w':V} {o:Option Be} {e:Ending} (h:RetBe W o e w'):∃nb a m c1 s a2 m2 c2 b1 n k t b2 n2 k2 a' m' c' s' a2' m2' c2' b' n' k' t' b2' n2' k2' e1 e2 e3 e4 bb,e = .returned (.tuple #[.agg #[Y Z nb,O a m c1,X s,O a2 m2 c2,O b1 n k,X t,O b2 n2 k2,O a' m' c',X s',O a2' m2' c2',O b' n' k',X t',O b2' n2' k2',Y Z e1,Y Z e2,Y Z e3,Y Z e4],X bb])∧(bb=true→∃be,o=J be∧PBe w' [Y Z nb,O a m c1,X s,O a2 m2 c2,O b1 n k,X t,O b2 n2 k2,O a' m' c',X s',O a2' m2' c2',O b' n' k',X t',O b2' n2' k2',Y Z e1,Y Z e2,Y Z e3,Y Z e4] be)∧(bb=false→o=M)∧Ext W w':=by
 obtain⟨g,⟨d,f⟩|⟨b,c,d,f,i⟩⟩:=h
 ·exact⟨0,M,0,0,false,M,0,0,M,0,0,false,M,0,0,M,0,0,false,M,0,0,M,0,0,false,M,0,0,0,0,0,0,false,f,(fun h=>by cases h),fun _=>d,g⟩
 ·obtain⟨a,m,c1,s,a2,m2,c2,b1,n,k,t,b2,n2,k2,a',m',c',s',a2',m2',c2',b',n',k',t',b2',n2',k2',rfl⟩:=i.form
  exact⟨b.num,a,m,c1,s,a2,m2,c2,b1,n,k,t,b2,n2,k2,a',m',c',s',a2',m2',c2',b',n',k',t',b2',n2',k2',b.d1.1,b.d1.2,b.d2.1,b.d2.2,true,f,fun _=>⟨b,d,i⟩,(fun h=>by cases h),g⟩
theorem zk7 {v wr W w:V} {f i:Nat} {z D v9:I} {ps:List Pl} {a:Nat→List Be} {y:I} {cs:List (List I)} {d:List I} {x:Be} {A:Array I} (R:i<ps.length+1) (K:v.heap.size=f) (T:Ext v wr) (P:f+1≤wr.heap.size) (L:wr.heap[f]?=J (.cells #[z,D] 124 (0,0)))
  (u:Ext wr W) (hz:f+1≤W.heap.size) (s:OwnC 79 17 wr (f+1) y cs) (q:cs.length=(a i).length) (r:∀(j:Nat) c b,cs[j]?=J c→(a i)[j]?=J b→PBe wr c b)
  (l:OwnC 79 17 w (f+1) v9 (cs++[d])) (e:(W.alloc (.cells A 79)).grownBy w y.ownBlock) (t:PBe W d x) (S:a (i+1)=a i++[x]) :
  BdS v f z D ps a (ps.length+1-(i+1)) v9 (Y Z (i:Int)) w:=by
 have g:=u.alloc (.cells A 79);have m:=s.ext g;have n:f+1≤(W.alloc (.cells A 79)).heap.size:=by simp only [wZ];omega
 have h:=zad (base:=f+1) e n (fun k Q=>(m.lt k Q).1);have o:=m.keepT (T':=2) dM e;have p:=T.trans g;refine⟨i+1,by omega,by go_num,rfl,p.thenB h oM,nT n h.size,(h.block _ oM).trans (g.heapS L),?_⟩;rw [S];exact OwnBe.app l q r (g.keep.trans o) ((t.ext ((eR _).alloc _)).keep o)
theorem ziU (w3 w4:V) (o:Nat) (vg vs:I) (ps:List Pl) (a:Nat) (R:Int) (f:Nat→List Be) (ai:Int→Option Be) (Q:Exit→Act→V→Prop) (x0 x3 x4 x5 x6 x7 x9 aR aS aq ar au av aw ax ay az aA aB aC aD aT aU aV aW aX aY aZ a0 a1 a3 a4 a5 a6 a7 a8 ba bc bf bg bh bi:I)
  (aL:∃a n c,vg=O a n c) (D:IsLas w3 vs ps) (bI:ps.length≤120) (ao:∀n,f (n+1)=f n++(match ai ((n:Int)-1)with|none=>[]|some b=>[b])) (al:∀n,(f n).length≤n) (ak:f 0=[])
  (hB:∀W,Ext w3 W→∀b:Int,-1≤b→b<ps.length→Calls Tryz.prog 72 #[.agg #[vg,vs],Y Z a,Y Z b,Y Z R] W (RetBe W (ai b)))
  (ah:Ext w3 w4) (aE:o+1≤w4.heap.size) (aj:w3.heap.size=o) (K8:w4.heap[o]?=J (.cells #[vg,vs] 124 (0,0)))
  (hQ:∀(W:V) (S aQ bj bk bl bm bn bo bp bq br bs bt bu bv bw bx bz bA bB bC bD bE bF bG:I),Ext w3 W→OwnBe W (o+1) S (f (ps.length+1))→(∃a n c,S=O a n c)→Q (.exit 0) { tmps:=#[x0,Y Z a,Y Z R,x3,x4,x5,x6,x7,.pointer (J ⟨o,0,M⟩),x9,S,aQ,bj,bk,aq,ar,au,av,aw,ax,ay,az,aA,aB,aC,aD,bl,bm,bn,bo,bp,bq,br,bs,bt,bu,bv,bw,bx,bz,bA,bB,bC,bD,bE,bF,bG],defers:=[] } W) :
  (Code.loop (loopAt Tryz.f16 0)).wp Tryz.prog Q { tmps:=#[x0,Y Z a,Y Z R,x3,x4,x5,x6,x7,.pointer (J ⟨o,0,M⟩),x9,O M 0 0,Y Z (-1),aR,aS,aq,ar,au,av,aw,ax,ay,az,aA,aB,aC,aD,aT,aU,aV,aW,aX,aY,aZ,a0,a1,a3,a4,a5,a6,a7,a8,ba,bc,bf,bg,bh,bi],defers:=[] } w4:=by
 obtain⟨ga,gn,gc,rfl⟩:=aL;obtain⟨sa,sn,sc,rfl⟩:=form3 D;have af:=hd9 (show sn=ps.length from D.len);have HB:=hd9 hB;have ag:=hd9 ao;have ac:=hd9 al;have ab:=hd9 ak;have aF:=hd9 aj;have HQ:=hd9 hQ;clear hB ao al ak aj hQ D;unfold loopAt;simp only [Tryz.f16,loopsOf,List.append_nil,List.nil_append,List.singleton_append,List.getD_cons_zero,List.getD_cons_succ]
 go_loopg [10,11] (ps.length+1) (BdS w3 o (O ga gn gc) (O sa sn sc) ps f)
 case atStart=>exact⟨0,by omega,by go_num,by omega,ah,aE,K8,by rw [ab.out];exact OwnBe.nil _ _⟩
 case round =>
  clear K8 ah aE ab;obtain⟨i,hi,rfl,rfl,hx,aK,hK,g⟩:=hrel;obtain⟨va,vn,vc,rfl⟩:=g.form3;have m0:=qcB hK (i:=0) (u:=O ga gn gc) rfl;have m1:=qcB hK (i:=1) (u:=O sa sn sc) rfl;have HK:=hd9 hK;have Hx:=hd9 hx;have l:=hd9 g;clear hK
  by_cases aM:i<ps.length+1
  ·have q1 : -1≤(i:Int)-1:=oM
   have q2:(i:Int)-1<(ps.length:Int):=oM
   have q3:(i:Int)-1<(sn:Int):=by have:=af.out;omega
   have aa:=hd9 (fun(W:V) (hW:Ext wr W)=>HB.out W (hx.trans hW) ((i:Int)-1) q1 q2);clear hx HB q1 q2;have aG:=hd9 (fun(W:V) (hW:Ext wr W)=>(aa.out W hW).mono (fun e w' h=>bed17 h));obtain⟨cs,an,x,am⟩:=g;have ae:=hd9 an;have aI:=hd9 am;have aH:=hd9 x;have aJ:=hd9 (show cs.length≤121 by rw [x];exact nT (ac.out i) oM);clear aa an x am ac HQ hi
   go_wp2_with(first|(go_at_call 72;(with_reducible refine(aG.out _ ?_).mono ?_);exact eA;rintro e w5 ⟨nb,a,m,c1,s,a2,m2,c2,b1,n,k,t,b2,n2,k2,a',m',c',s',p,L,r,b',n',k',t',q,P,K,e1,e2,e3,e4,bb,rfl,ap,aO,d⟩;(have z5:=d.size))|(at_builtin;refine appC (T:=79) (t:=54) (z:=.agg be0) (k:=17) (bytes:=264) (base:=o+1) (v:=O va vn vc) (cs:=cs) (m:=1) (c:=1) (ad:=⟨w5.heap.size+1,0,M⟩) znr rfl dM dM Tryz.underlying54 rfl _ _ rfl rfl (ae.out.ext ((d.alloc _).alloc _)) rfl [[Y Z nb,O a m c1,X s,O a2 m2 c2,O b1 n k,X t,O b2 n2 k2,O a' m' c',X s',O p L r,O b' n' k',X t',O q P K,Y Z e1,Y Z e2,Y Z e3,Y Z e4]] rfl sM (by have:=zdu (w5.alloc (.cells #[Y Z nb,O a m c1,X s,O a2 m2 c2,O b1 n k,X t,O b2 n2 k2,O a' m' c',X s',O p L r,O b' n' k',X t',O q P K,Y Z e1,Y Z e2,Y Z e3,Y Z e4] 79)) #[Y Z nb,O a m c1,X s,O a2 m2 c2,O b1 n k,X t,O b2 n2 k2,O a' m' c',X s',O p L r,O b' n' k',X t',O q P K,Y Z e1,Y Z e2,Y Z e3,Y Z e4] 79;simpa only [wZ] using this) (by simp [Value.oneCell']) (by have:=aJ.out;omega) (by simp only [wZ];omega) ?_;intro v' w9 j y bH;obtain⟨a9,n9,c9,rfl⟩:=j.form3))
   ·go_roundg (ps.length+1-(i+1))
    case measure=>omega
    case rel =>
     obtain⟨be,w,aP⟩:=ap (by assumption);exact zk7 aM aF.out Hx.out aK HK.out (d.alloc _) (by simp only [wZ];omega) ae.out aH.out aI.out j y (aP.ext ((eR _).alloc _)) (by rw [ag.out,w])
   ·go_roundg (ps.length+1-(i+1))
    case measure=>omega
    case rel =>
     have w:=aO (by assumption);exact⟨i+1,by omega,by go_num,rfl,(Hx.out.trans d).alloc _,by have:=d.size;simp only [wZ];omega,((eR _).alloc _).heapS (d.heapS HK.out),by rw [ag.out,w,List.append_nil];exact(l.out.ext d).ext ((eR _).alloc _)⟩
  ·obtain rfl:i=ps.length+1:=oM
   have q3:¬(((ps.length+1:Nat):Int)-1<(sn:Int)):=by have:=af.out;omega
   go_wp2;exact HQ.out _ _ _ _ _ _ _ _ _ _ _ _ _ _ _ _ _ _ _ _ _ _ _ _ _ _ Hx.out l.out ⟨_,_,_,rfl⟩
theorem zm0 (w:V) (vg vp:I) (g:List (Int×Int)) (ps:List Pl) (a:Nat) (p:Pl) (c:Int) (hg:IsPts w vg g) (hp:IsPls w vp ps) (S:Gw w) (h0:laidP g ps=0) (ha:ps[a]?=J p) (ao:0≤c) (ap:c≤50)
  (Q:groundB g=true) (T:∀q∈ps,placedOk q=true) (aj:ps.length≤120) :
  Calls Tryz.prog 16 #[.agg #[vg,vp],Y Z a,Y Z c] w (RetBs w (bedsN g ps a p c (ps.length+1))):=by
 have HL:=hd9 (fun(W:V) (m:Ext w W)=>(zct W vg vp g ps (hg.ext' m) (hp.ext' m) (S.ext m)).mono (fun e w' h=>h.resolve_left (fun h9=>h9.1 h0)));have HB:=hd9 (fun(W:V) (m:Ext w W) (vs:I) (hs:IsLas W vs ps) (b:Int) (u : -1≤b) (v:b<ps.length)=>zmY W vg vs g ps a p b c (hg.ext' m) hs ha Q T u v (by unfold Bd;omega));obtain⟨ga,gn,gc,rfl⟩:=form3 hg;obtain⟨pa,pn,ar,rfl⟩:=form3 hp;have aa:=hp.len;have Hn:=hd9 aa;have Hw:=hd9 (fun(l:Nat) (h:ps.length=l)=>(show wrongB l a c=false by unfold wrongB;have:=(lS.1 ha).1;simp;omega));clear aa;have hi:=(lS.1 ha).1;obtain⟨t,d⟩:=gX (bedsN g ps a p c);have r:=hd9 (d▸zhX g ps a p c);have K:=hd9 (d▸ziT g ps a p c);have D:=hd9 (show t 0=[] by rw [←d];rfl);rw [d];obtain⟨ae,n⟩:=gX (bedAt g ps a p c);rw [n]at HB r;obtain⟨R,hR⟩:=gX (RetBs w (t (ps.length+1)));rw [hR];have HR:=hd9 hR;clear hg hp S h0 ha Q T hR d n;go_enter Tryz.func16,Tryz.ntmps16
 go_wp2_with(first|(go_at_call 49;(with_reducible refine(HL.out _ ?_).mono ?_);exact eA;rintro e y ⟨-,vs,rfl,j,k⟩;obtain⟨sa,l,sc,rfl⟩:=form3 j;obtain⟨af,ah⟩:=k.cells;(have z3:=k.size);(simp only [wZ]at z3);(have ak:wrongB l a c=false:=Hw.out l j.len.symm);(have s:=hd9 j);clear j;(have am:w.heap.size<y.heap.size:=oM))|(go_at_call 71;(with_reducible refine(zkV _ (O ga gn gc) sa l sc a c ⟨_,_,_,rfl⟩).mono ?_);rw [ak];rintro e w4 ⟨rfl,f⟩;obtain⟨ag,ai⟩:=f.cells;(have z4:=f.size);(simp only [wZ]at z4)))
 have X3:Ext w y:=((eR w).alloc _).trans k;have an:=hd9 (show l=ps.length from s.out.len);have K8:=f.heapS (aN y (.cells #[O ga gn gc,O sa l sc] 124));have P:Ext y w4:=((eR y).alloc _).trans f;obtain⟨b8,i⟩:=gX y.heap.size;have z:=hd9 X3;have ac:=hd9 i;have aq:w.heap.size≤b8:=oM
 have al:b8+1≤w4.heap.size:=oM
 rw [i]at K8;simp only [i];clear af ah ag ai k f X3 i z3 z4 am;refine ziU y w4 b8 (O ga gn gc) (O sa l sc) ps a c t ae _ _ _ _ _ _ _ _ _ _ _ _ _ _ _ _ _ _ _ _ _ _ _ _ _ _ _ _ _ _ _ _ _ _ _ _ _ _ _ _ _ _ _ ⟨_,_,_,rfl⟩ s.out aj r.out K.out D.out (fun W m b u v=>HB.out W (z.out.trans m) _ (s.out.ext' m) b u v) P al ac.out K8 ?_;intro W au av aw ax ay az aA aB aC aD aE aF aG aH aI aJ aK aL aM aO aP aQ aR aS aT ab o x;obtain⟨va,vn,vc,rfl⟩:=x;have ad:=hd9 ab;have L:=hd9 o;clear ab o K8 P HL HB r K D;go_wp2;rw [←HR.out];exact⟨_,rfl,L.out.mono oM,z.out.trans ad.out⟩
end
end Go.Proofs.YtjnjpagegkcgfaaGreatDoor.Cop
