/- Part 22: contracts of what the law calls. -/
import Derived.Test.YtodpfeaihohpjaaGreatDoorCopA19
import Derived.Test.YtodpfeaihohpjaaGreatDoorCopA20
import Derived.Test.YtodpfeaihohpjaaGreatDoorCopA16
import Derived.Test.YtodpfeaihohpjaaGreatDoorCopA18
set_option maxRecDepth 1000000
set_option maxHeartbeats 16000000
set_option linter.unusedSimpArgs false
set_option linter.unusedVariables false
open Go.Value renaming slice→O,int→Y,bool→V
open Go.IntKind renaming i64→Z
open Go renaming World→I,Value→J
open Option renaming some→M,none→N
namespace Go.Proofs.YtodpfeaihohpjaaGreatDoor.Cop
section
open Go.RowKit Go.Shelf Go.Sort Go.Lib
theorem IsV.keepJ {w w':I} {v:J} {x z:Rat} (h:IsV w v x z) (k:KeepT 2 w w'):IsV w' v x z:=IsV.keep h k
theorem PBe.keep {w w':I} {c:List J} {b:Be} (h:PBe w c b) (k:KeepT 2 w w'):PBe w' c b:=by
 obtain⟨f,t,a,d,e⟩:=h;exact⟨f,t,a,d.keep k,e.keep k⟩
def OwnBe (w:I) (base:Nat) (v:J) (a:List Be):Prop:=∃cs,OwnC 69 17 w base v cs∧cs.length=a.length∧∀(i:Nat) c b,cs[i]?=M c→a[i]?=M b→PBe w c b
theorem OwnBe.ext {w w':I} {base:Nat} {v:J} {a:List Be} (h:OwnBe w base v a) (k:Ext w w'):OwnBe w' base v a:=by
 obtain⟨d,e,f,g⟩:=h;exact⟨d,e.ext k,f,fun i c b l j=>(g i c b l j).ext k⟩
theorem OwnBe.nil (w:I) (base:Nat):OwnBe w base (O N 0 0) []:=⟨[],OwnC.nil _ _ _ _,rfl,fun i c b a=>by simp at a⟩
theorem OwnBe.form3 {w:I} {base:Nat} {v:J} {b:List Be} (h:OwnBe w base v b):∃a n c,v=O a n c:=by obtain⟨e,d,_⟩:=h;exact d.form3
theorem OwnBe.app {wr g:I} {base:Nat} {l:J} {f:List Be} {cs:List (List J)} {d:List J} {b:Be} (h:OwnC 69 17 g base l (cs++[d])) (j:cs.length=f.length)
  (k:∀(i:Nat) c b,cs[i]?=M c→f[i]?=M b→PBe wr c b) (o:KeepT 2 wr g) (n:PBe g d b):OwnBe g base l (f++[b]):=by
 refine⟨cs++[d],h,by simp [j],fun i c m a e=>?_⟩
 by_cases hi:i<cs.length
 ·rw [List.getElem?_append_left hi]at a
  rw [List.getElem?_append_left oM]at e;exact(k i c m a e).keep o
 ·rw [List.getElem?_append_right oM]at a e
  have r:=(lS.1 a).1;simp at r;have:i-cs.length=0:=oM
  rw [this]at a;rw [show i-f.length=0 by omega]at e;simp at a e;subst a e;exact n
theorem zmS:(Tryz.prog.info? 69).map (fun i=>(i.zero,i.size,i.bytes))=M (M (.agg be0),17,264):=kM
def bedAt (g:List (Int×Int)) (ps:List Pl) (a:Nat) (p:Pl) (pin b:Int):Option Be:=
 if (a:Int)=b then N else if b<0 then bedO p g b pin else match ps[b.toNat]? with|none=>N|some q=>if meetB p q=true then bedO p (upP2 q) b pin else N
def bedsN (g:List (Int×Int)) (ps:List Pl) (a:Nat) (p:Pl) (pin:Int) (n:Nat):List Be:=(List.range n).filterMap fun k:Nat=>bedAt g ps a p pin ((k:Int)-1)
theorem zda (g:List (Int×Int)) (ps:List Pl) (a:Nat) (p:Pl) (pin:Int) (n:Nat):bedsN g ps a p pin (n+1)=bedsN g ps a p pin n++(match bedAt g ps a p pin ((n:Int)-1)with|none=>[]|some b=>[b]):=by
 unfold bedsN;rw [List.range_succ,List.filterMap_append]
 congr 1
 cases h:bedAt g ps a p pin ((n:Int)-1)<;>simp [h]
theorem ziW (g:List (Int×Int)) (ps:List Pl) (a:Nat) (p:Pl) (pin:Int) (n:Nat):(bedsN g ps a p pin n).length≤n:=by
 unfold bedsN;have:=List.length_filterMap_le (fun k:Nat=>bedAt g ps a p pin ((k:Int)-1)) (List.range n)
 simpa using this
theorem zmz (w:I) (c d:J) (g:List (Int×Int)) (ps:List Pl) (a:Nat) (p:Pl) (b pin:Int) (i:IsPts w c g) (k:IsLas w d ps) (m:ps[a]?=M p) (n:groundB g=true) (j:∀q∈ps,placedOk q=true) (v : -1≤b) (x:b<ps.length)
  (hp:Bd 104000 pin) :
  Calls Tryz.prog 58 #[.agg #[c,d],Y Z a,Y Z b,Y Z pin] w (RetBe w (bedAt g ps a p pin b)):=by
 have o:=j p (lM m);unfold bedAt
 by_cases l:(a:Int)=b
 ·rw [if_pos l,←l]
  exact zk0 w c d ps a p pin (form3 i) k m
 rw [if_neg l]
 by_cases s:b<0
 ·rw [if_pos s]
  exact zlZ w c d ps a p b pin g (form3 i) k m (.inl s) (zae o).1 (zbC n) (zjk n) (fun W t=>(ziE W c d b s (form3 i) (form3 k)).mono (by rintro e y ⟨rfl,u⟩;exact⟨_,rfl,i.ext' (t.trans u),u⟩)) hp
 rw [if_neg s];obtain⟨q,hq⟩:∃q,ps[b.toNat]?=M q:=⟨ps[b.toNat]' oM,gE _⟩;have r:=lM hq;simp only [hq];have f:b=((b.toNat:Nat):Int):=oM
 cases hmt:meetB p q with
 | false =>
  rw [if_neg sM];exact ziV w c d ps a p b pin (form3 i) k m b.toNat f q hq hmt l
 | true =>
 rw [if_pos rfl];refine zlZ w c d ps a p b pin (upP2 q) (form3 i) k m (.inr ⟨b.toNat,q,f,hq,hmt,l⟩) (zae o).1 (zae (j q r)).2 (zns (j q r)) (fun W t=>?_) hp;have:=zkG W c d ps b.toNat q (form3 i) (k.ext' t) hq;rw [←f]at this;exact this
theorem OwnBe.lt {w:I} {base:Nat} {v:J} {a:List Be} (h:OwnBe w base v a):∀j,v.ownBlock=M j→base≤j∧j<w.heap.size:=by obtain⟨c,b,_⟩:=h;exact b.lt
theorem OwnBe.mono {w:I} {base b':Nat} {v:J} {a:List Be} (h:OwnBe w base v a) (k:b'≤base):OwnBe w b' v a:=by obtain⟨b,c,d,e⟩:=h;exact⟨b,c.mono k,d,e⟩
def RetBs (w:I) (a:List Be) (e:Ending) (w':I):Prop:=∃v,e = .returned (.tuple #[v,Y Z 0])∧OwnBe w' w.heap.size v a∧Ext w w'
def BdS (w:I) (a:Nat) (f g:J) (ps:List Pl) (b:Nat→List Be) (e:Nat) (c d:J) (W:I):Prop:=
 ∃i:Nat,i≤ps.length+1∧d=Y Z ((i:Int)-1)∧e=ps.length+1-i∧Ext w W∧a+1≤W.heap.size∧W.heap[a]?=M (.cells #[f,g] 108 (0,0))∧OwnBe W (a+1) c (b i)
theorem PBe.form {w:I} {c:List J} {b:Be} (h:PBe w c b):∃a m c1 s a2 m2 c2 b1 n k t b2 n2 k2 a' m' c' s' a2' m2' c2' b' n' k' t' b2' n2' k2',c=[Y Z b.num,O a m c1,V s,O a2 m2 c2,O b1 n k,V t,O b2 n2 k2,O a' m' c',V s',O a2' m2' c2',O b' n' k',V t',O b2' n2' k2',Y Z b.d1.1,Y Z b.d1.2,Y Z b.d2.1,Y Z b.d2.2]:=by
 obtain⟨f,t,rfl,⟨a,m,c,s,a2,m2,c2,b1,n,k,d,b2,n2,k2,i,_,_⟩,a',m',c',s',a2',m2',c2',b',n',k',t',b2',n2',k2',j,_,_⟩:=h;have e:f=[O a m c,V s,O a2 m2 c2,O b1 n k,V d,O b2 n2 k2]:=by simpa using i
 have g:t=[O a' m' c',V s',O a2' m2' c2',O b' n' k',V t',O b2' n2' k2']:=by simpa using j
 subst e g;exact⟨a,m,c,s,a2,m2,c2,b1,n,k,d,b2,n2,k2,a',m',c',s',a2',m2',c2',b',n',k',t',b2',n2',k2',rfl⟩
theorem bed17 {W w':I} {o:Option Be} {e:Ending} (h:RetBe W o e w'):∃nb a m c1 s a2 m2 c2 b1 n k t b2 n2 k2 a' m' c' s' a2' m2' c2' b' n' k' t' b2' n2' k2' e1 e2 e3 e4 bb,e = .returned (.tuple #[.agg #[Y Z nb,O a m c1,V s,O a2 m2 c2,O b1 n k,V t,O b2 n2 k2,O a' m' c',V s',O a2' m2' c2',O b' n' k',V t',O b2' n2' k2',Y Z e1,Y Z e2,Y Z e3,Y Z e4],V bb])∧(bb=true→∃be,o=M be∧PBe w' [Y Z nb,O a m c1,V s,O a2 m2 c2,O b1 n k,V t,O b2 n2 k2,O a' m' c',V s',O a2' m2' c2',O b' n' k',V t',O b2' n2' k2',Y Z e1,Y Z e2,Y Z e3,Y Z e4] be)∧(bb=false→o=N)∧Ext W w':=by
 obtain⟨g,⟨d,f⟩|⟨b,c,d,f,i⟩⟩:=h
 ·exact⟨0,N,0,0,false,N,0,0,N,0,0,false,N,0,0,N,0,0,false,N,0,0,N,0,0,false,N,0,0,0,0,0,0,false,f,(fun h=>by cases h),fun _=>d,g⟩
 ·obtain⟨a,m,c1,s,a2,m2,c2,b1,n,k,t,b2,n2,k2,a',m',c',s',a2',m2',c2',b',n',k',t',b2',n2',k2',rfl⟩:=i.form
  exact⟨b.num,a,m,c1,s,a2,m2,c2,b1,n,k,t,b2,n2,k2,a',m',c',s',a2',m2',c2',b',n',k',t',b2',n2',k2',b.d1.1,b.d1.2,b.d2.1,b.d2.2,true,f,fun _=>⟨b,d,i⟩,(fun h=>by cases h),g⟩
theorem zk2 {y wr W z:I} {f i:Nat} {P Q v9:J} {ps:List Pl} {a:Nat→List Be} {K:J} {cs:List (List J)} {d:List J} {D:Be} {A:Array J} (ab:i<ps.length+1) (T:y.heap.size=f) (hx:Ext y wr) (aa:f+1≤wr.heap.size) (hK:wr.heap[f]?=M (.cells #[P,Q] 108 (0,0)))
  (x:Ext wr W) (hz:f+1≤W.heap.size) (v:OwnC 69 17 wr (f+1) K cs) (t:cs.length=(a i).length) (u:∀(j:Nat) c b,cs[j]?=M c→(a i)[j]?=M b→PBe wr c b)
  (m:OwnC 69 17 z (f+1) v9 (cs++[d])) (e:(W.alloc (.cells A 69)).grownBy z K.ownBlock) (w:PBe W d D) (hs:a (i+1)=a i++[D]) :
  BdS y f P Q ps a (ps.length+1-(i+1)) v9 (Y Z (i:Int)) z:=by
 have g:=x.alloc (.cells A 69);have n:=v.ext g;have o:f+1≤(W.alloc (.cells A 69)).heap.size:=by simp only [wZ];omega
 have l:=zah (base:=f+1) e o (fun k hk=>(n.lt k hk).1);have r:=n.keepT (T':=2) dM e;have s:=hx.trans g;refine⟨i+1,by omega,by go_num,rfl,s.thenB l oM,nT o l.size,(l.block _ oM).trans (g.heapS hK),?_⟩;rw [hs];exact OwnBe.app m t u (g.keep.trans r) ((w.ext ((eR _).alloc _)).keep r)
theorem ziX (w3 w4:I) (o:Nat) (vg vs:J) (ps:List Pl) (a:Nat) (pin:Int) (f:Nat→List Be) (am:Int→Option Be) (Q:Exit→Act→I→Prop) (x0 x3 x4 x5 x6 x7 x9 aU aV aw ax ay az aA aB aC aD aE aF aG aH aW aX aY aZ a0 a1 a3 a4 a5 a6 a7 a8 ba bc bd bf bg bh bi bj bk:J)
  (aQ:∃a n c,vg=O a n c) (P:IsLas w3 vs ps) (bK:ps.length≤120) (au:∀n,f (n+1)=f n++(match am ((n:Int)-1)with|none=>[]|some b=>[b])) (ap:∀n,(f n).length≤n) (ao:f 0=[])
  (hB:∀W,Ext w3 W→∀b:Int,-1≤b→b<ps.length→Calls Tryz.prog 58 #[.agg #[vg,vs],Y Z a,Y Z b,Y Z pin] W (RetBe W (am b)))
  (al:Ext w3 w4) (aI:o+1≤w4.heap.size) (an:w3.heap.size=o) (K8:w4.heap[o]?=M (.cells #[vg,vs] 108 (0,0)))
  (hQ:∀(W:I) (ae aT bl bm bn bo bp bq br bs bt bu bv bw bx bz bA bB bC bD bE bF bG bH bI:J),Ext w3 W→OwnBe W (o+1) ae (f (ps.length+1))→(∃a n c,ae=O a n c)→Q (.exit 0) { tmps:=#[x0,Y Z a,Y Z pin,x3,x4,x5,x6,x7,.pointer (M ⟨o,0,N⟩),x9,ae,aT,bl,bm,aw,ax,ay,az,aA,aB,aC,aD,aE,aF,aG,aH,bn,bo,bp,bq,br,bs,bt,bu,bv,bw,bx,bz,bA,bB,bC,bD,bE,bF,bG,bH,bI],defers:=[] } W) :
  (Code.loop (loopAt Tryz.f16 0)).wp Tryz.prog Q { tmps:=#[x0,Y Z a,Y Z pin,x3,x4,x5,x6,x7,.pointer (M ⟨o,0,N⟩),x9,O N 0 0,Y Z (-1),aU,aV,aw,ax,ay,az,aA,aB,aC,aD,aE,aF,aG,aH,aW,aX,aY,aZ,a0,a1,a3,a4,a5,a6,a7,a8,ba,bc,bd,bf,bg,bh,bi,bj,bk],defers:=[] } w4:=by
 obtain⟨ga,gn,gc,rfl⟩:=aQ;obtain⟨sa,sn,sc,rfl⟩:=form3 P;have aj:=hd9 (show sn=ps.length from P.len);have HB:=hd9 hB;have ak:=hd9 au;have ah:=hd9 ap;have ag:=hd9 ao;have aJ:=hd9 an;have HQ:=hd9 hQ;clear hB au ap ao an hQ P;unfold loopAt;simp only [Tryz.f16,loopsOf,List.append_nil,List.nil_append,List.singleton_append,List.getD_cons_zero,List.getD_cons_succ]
 go_loopg [10,11] (ps.length+1) (BdS w3 o (O ga gn gc) (O sa sn sc) ps f)
 case atStart=>exact⟨0,by omega,by go_num,by omega,al,aI,K8,by rw [ag.out];exact OwnBe.nil _ _⟩
 case round =>
  clear K8 al aI ag;obtain⟨i,hi,rfl,rfl,hx,aP,hK,g⟩:=hrel;obtain⟨va,vn,vc,rfl⟩:=g.form3;have m0:=qcB hK (i:=0) (u:=O ga gn gc) rfl;have m1:=qcB hK (i:=1) (u:=O sa sn sc) rfl;have HK:=hd9 hK;have Hx:=hd9 hx;have l:=hd9 g;clear hK
  by_cases aR:i<ps.length+1
  ·have q1 : -1≤(i:Int)-1:=oM
   have q2:(i:Int)-1<(ps.length:Int):=oM
   have q3:(i:Int)-1<(sn:Int):=by have:=aj.out;omega
   have af:=hd9 (fun(W:I) (hW:Ext wr W)=>HB.out W (hx.trans hW) ((i:Int)-1) q1 q2);clear hx HB q1 q2;have aK:=hd9 (fun(W:I) (hW:Ext wr W)=>(af.out W hW).mono (fun e w' h=>bed17 h));obtain⟨cs,ar,D,aq⟩:=g;have ai:=hd9 ar;have aM:=hd9 aq;have aL:=hd9 D;have aO:=hd9 (show cs.length≤121 by rw [D];exact nT (ah.out i) oM);clear af ar D aq ah HQ hi
   go_wp2_with(first|(go_at_call 58;(with_reducible refine(aK.out _ ?_).mono ?_);exact eA;rintro e w5 ⟨nb,a,m,c1,s,a2,m2,c2,b1,n,k,t,b2,n2,k2,a',m',c',s',r,ab,x,b',n',k',t',w,ac,aa,e1,e2,e3,e4,bb,rfl,av,hno,d⟩;(have z5:=d.size))|(at_builtin;refine appC (T:=69) (t:=54) (z:=.agg be0) (k:=17) (bytes:=264) (base:=o+1) (v:=O va vn vc) (cs:=cs) (m:=1) (c:=1) (ad:=⟨w5.heap.size+1,0,N⟩) zmS rfl dM dM Tryz.underlying54 rfl _ _ rfl rfl (ai.out.ext ((d.alloc _).alloc _)) rfl [[Y Z nb,O a m c1,V s,O a2 m2 c2,O b1 n k,V t,O b2 n2 k2,O a' m' c',V s',O r ab x,O b' n' k',V t',O w ac aa,Y Z e1,Y Z e2,Y Z e3,Y Z e4]] rfl sM (by have:=zdw (w5.alloc (.cells #[Y Z nb,O a m c1,V s,O a2 m2 c2,O b1 n k,V t,O b2 n2 k2,O a' m' c',V s',O r ab x,O b' n' k',V t',O w ac aa,Y Z e1,Y Z e2,Y Z e3,Y Z e4] 69)) #[Y Z nb,O a m c1,V s,O a2 m2 c2,O b1 n k,V t,O b2 n2 k2,O a' m' c',V s',O r ab x,O b' n' k',V t',O w ac aa,Y Z e1,Y Z e2,Y Z e3,Y Z e4] 69;simpa only [wZ] using this) (by simp [Value.oneCell']) (by have:=aO.out;omega) (by simp only [wZ];omega) ?_;intro v' w9 j K bJ;obtain⟨a9,n9,c9,rfl⟩:=j.form3))
   ·go_roundg (ps.length+1-(i+1))
    case measure=>omega
    case rel =>
     obtain⟨be,y,aS⟩:=av (by assumption);exact zk2 aR aJ.out Hx.out aP HK.out (d.alloc _) (by simp only [wZ];omega) ai.out aL.out aM.out j K (aS.ext ((eR _).alloc _)) (by rw [ak.out,y])
   ·go_roundg (ps.length+1-(i+1))
    case measure=>omega
    case rel =>
     have y:=hno (by assumption);exact⟨i+1,by omega,by go_num,rfl,(Hx.out.trans d).alloc _,by have:=d.size;simp only [wZ];omega,((eR _).alloc _).heapS (d.heapS HK.out),by rw [ak.out,y,List.append_nil];exact(l.out.ext d).ext ((eR _).alloc _)⟩
  ·obtain rfl:i=ps.length+1:=oM
   have q3:¬(((ps.length+1:Nat):Int)-1<(sn:Int)):=by have:=aj.out;omega
   go_wp2;exact HQ.out _ _ _ _ _ _ _ _ _ _ _ _ _ _ _ _ _ _ _ _ _ _ _ _ _ _ Hx.out l.out ⟨_,_,_,rfl⟩
theorem zmB (w:I) (vg vp:J) (g:List (Int×Int)) (ps:List Pl) (a:Nat) (p:Pl) (pin:Int) (hg:IsPts w vg g) (hp:IsPls w vp ps) (T:Gw w) (h0:laidP g ps=0) (ha:ps[a]?=M p) (ap:0≤pin) (aq:pin≤50)
  (Q:groundB g=true) (aa:∀q∈ps,placedOk q=true) (ak:ps.length≤120) :
  Calls Tryz.prog 16 #[.agg #[vg,vp],Y Z a,Y Z pin] w (RetBs w (bedsN g ps a p pin (ps.length+1))):=by
 have HL:=hd9 (fun(W:I) (l:Ext w W)=>(zbN W vg vp g ps (hg.ext' l) (hp.ext' l) (T.ext l)).mono (fun e w' h=>h.resolve_left (fun h9=>h9.1 h0)));have HB:=hd9 (fun(W:I) (l:Ext w W) (vs:J) (hs:IsLas W vs ps) (b:Int) (t : -1≤b) (u:b<ps.length)=>zmz W vg vs g ps a p b pin (hg.ext' l) hs ha Q aa t u (by unfold Bd;omega));obtain⟨ga,gn,gc,rfl⟩:=form3 hg;obtain⟨pa,pn,au,rfl⟩:=form3 hp;have ab:=hp.len;have Hn:=hd9 ab;have Hw:=hd9 (fun(k:Nat) (h:ps.length=k)=>(show wrongB k a pin=false by unfold wrongB;have:=(lS.1 ha).1;simp;omega));clear ab;have hi:=(lS.1 ha).1;obtain⟨s,c⟩:=gX (bedsN g ps a p pin);have o:=hd9 (c▸zda g ps a p pin);have D:=hd9 (c▸ziW g ps a p pin);have z:=hd9 (show s 0=[] by rw [←c];rfl);rw [c];obtain⟨af,m⟩:=gX (bedAt g ps a p pin);rw [m]at HB o;obtain⟨R,hR⟩:=gX (RetBs w (s (ps.length+1)));rw [hR];have HR:=hd9 hR;clear hg hp T h0 ha Q aa hR c m;go_enter Tryz.func16,Tryz.ntmps16
 go_wp2_with(first|(go_at_call 44;(with_reducible refine(HL.out _ ?_).mono ?_);exact eA;rintro e x ⟨-,vs,rfl,i,j⟩;obtain⟨sa,k,sc,rfl⟩:=form3 i;obtain⟨ag,ai⟩:=j.cells;(have z3:=j.size);(simp only [wZ]at z3);(have al:wrongB k a pin=false:=Hw.out k i.len.symm);(have r:=hd9 i);clear i;(have an:w.heap.size<x.heap.size:=oM))|(go_at_call 57;(with_reducible refine(zkO _ (O ga gn gc) sa k sc a pin ⟨_,_,_,rfl⟩).mono ?_);rw [al];rintro e w4 ⟨rfl,d⟩;obtain⟨ah,aj⟩:=d.cells;(have z4:=d.size);(simp only [wZ]at z4)))
 have X3:Ext w x:=((eR w).alloc _).trans j;have ao:=hd9 (show k=ps.length from r.out.len);have K8:=d.heapS (aN x (.cells #[O ga gn gc,O sa k sc] 108));have P:Ext x w4:=((eR x).alloc _).trans d;obtain⟨b8,f⟩:=gX x.heap.size;have y:=hd9 X3;have ad:=hd9 f;have ar:w.heap.size≤b8:=oM
 have am:b8+1≤w4.heap.size:=oM
 rw [f]at K8;simp only [f];clear ag ai ah aj j d X3 f z3 z4 an;refine ziX x w4 b8 (O ga gn gc) (O sa k sc) ps a pin s af _ _ _ _ _ _ _ _ _ _ _ _ _ _ _ _ _ _ _ _ _ _ _ _ _ _ _ _ _ _ _ _ _ _ _ _ _ _ _ _ _ _ _ ⟨_,_,_,rfl⟩ r.out ak o.out D.out z.out (fun W l b t u=>HB.out W (y.out.trans l) _ (r.out.ext' l) b t u) P am ad.out K8 ?_;intro W av aw ax ay az aA aB aC aD aE aF aG aH aI aJ aK aL aM aO aP aQ aR aS aT aU ac n v;obtain⟨va,vn,vc,rfl⟩:=v;have ae:=hd9 ac;have K:=hd9 n;clear ac n K8 P HL HB o D z;go_wp2;rw [←HR.out];exact⟨_,rfl,K.out.mono oM,y.out.trans ae.out⟩
end
section
open Go.RowKit Go.Shelf Go.Sort Go.Lib Go.Maps
def mvQ (d q:Int×Int):Int×Int:=(q.1+d.1,q.2+d.2)
def mvL (d:Int×Int) (l:List (Int×Int)):List (Int×Int):=l.map (mvQ d)
def mvP (d:Int×Int) (p:Pl):Pl:={ p with ax:=p.ax+d.1,az:=p.az+d.2 }
theorem zmb (d q:Int×Int):mvQ (ngP d) (mvQ d q)=q:=by
 unfold mvQ ngP;refine Prod.ext ?_ ?_<;>(dsimp only;omega)
theorem zjW (d q:Int×Int):mvQ d (mvQ (ngP d) q)=q:=by
 unfold mvQ ngP;refine Prod.ext ?_ ?_<;>(dsimp only;omega)
theorem zma (d:Int×Int) (l:List (Int×Int)):mvL (ngP d) (mvL d l)=l:=by
 unfold mvL;rw [List.map_map,show mvQ (ngP d) ∘ mvQ d=id from funext (zmb d),List.map_id]
theorem zeX (d:Int×Int) (p:Pl):cornersP (mvP d p)=mvL d (cornersP p):=by
 unfold cornersP mvL mvP;rw [List.map_map];refine List.map_congr_left fun q _=>?_
 unfold mvQ;refine Prod.ext ?_ ?_<;>(dsimp only [Function.comp_apply];omega)
theorem LowV.mv {cs:List (Int×Int)} {q:Int×Int} (d:Int×Int) (h:LowV cs q):LowV (mvL d cs) (mvQ d q):=by
 obtain⟨u,v,⟨a,b⟩,hq⟩:=h;exact⟨mvQ d u,mvQ d v,⟨a.maps _,by unfold mvQ;dsimp only;omega⟩,by rcases hq with rfl|rfl<;>simp⟩
theorem UpV.mv {cs:List (Int×Int)} {q:Int×Int} (d:Int×Int) (h:UpV cs q):UpV (mvL d cs) (mvQ d q):=by
 obtain⟨u,v,⟨a,b⟩,hq⟩:=h;exact⟨mvQ d u,mvQ d v,⟨a.maps _,by unfold mvQ;dsimp only;omega⟩,by rcases hq with rfl|rfl<;>simp⟩
theorem Rise.eq {l m:List (Int×Int)} (c:Rise l) (d:Rise m) (h:∀q,q∈l ↔ q∈m):l=m:=by
 have f:∀{l:List (Int×Int)},Rise l→l.Nodup:=fun h=>List.Pairwise.imp (fun h e=>by subst e;omega) h
 exact List.Perm.eq_of_pairwise (le:=fun a b:Int×Int=>a.1<b.1) (fun a b _ _ g i=>by omega) c d ((List.perm_ext_iff_of_nodup (f c) (f d)).2 h)
theorem Rise.mv {l:List (Int×Int)} (d:Int×Int) (h:Rise l):Rise (mvL d l):=by
 unfold Rise mvL at *;rw [List.pairwise_map];exact h.imp fun h=>by unfold mvQ;dsimp only;omega
theorem zjQ {d q:Int×Int} {l:List (Int×Int)}:q∈mvL d l ↔ mvQ (ngP d) q∈l:=by
 unfold mvL;rw [List.mem_map]
 constructor
 ·rintro ⟨p,hp,rfl⟩
  rwa [zmb]
 ·intro h
  exact⟨_,h,zjW d q⟩
theorem zdn {d:Int×Int} {p:Pl} (h:placedOk p=true) (k:placedOk (mvP d p)=true):lowP2 (mvP d p)=mvL d (lowP2 p):=by
 refine Rise.eq (zam k).1 ((zam h).1.mv d) fun q=>?_
 rw [(zam k).2.1,zjQ,(zam h).2.1,zeX]
 constructor
 ·intro a
  have:=a.mv (ngP d)
  rwa [zma]at this
 ·intro a
  have:=a.mv d
  rwa [zjW]at this
theorem zlx {d:Int×Int} {p:Pl} (h:placedOk p=true) (k:placedOk (mvP d p)=true):upP2 (mvP d p)=mvL d (upP2 p):=by
 refine Rise.eq (zax k).1 ((zax h).1.mv d) fun q=>?_
 rw [(zax k).2.1,zjQ,(zax h).2.1,zeX]
 constructor
 ·intro a
  have:=a.mv (ngP d)
  rwa [zma]at this
 ·intro a
  have:=a.mv d
  rwa [zjW]at this
theorem zgM (d:Int×Int) (l:List (Int×Int)) {i:Nat} (h:i<l.length):(mvL d l).getD i (0,0)=mvQ d (l.getD i (0,0)):=by
 unfold mvL;rw [gD,gD,lP,gE h];rfl
theorem zaX (d:Int×Int) {l:List (Int×Int)} (h:l≠[]):lineL (mvL d l)=lineL l+d.1∧lineR (mvL d l)=lineR l+d.1:=by
 have a:=List.length_pos_iff.2 h;have b:(mvL d l).length=l.length:=by unfold mvL;rw [lL]
 unfold lineL lineR;rw [b,zgM d l a,zgM d l oM];exact⟨rfl,rfl⟩
def mvE (d:Int×Int) (e:Edg):Edg:=(mvQ d e.1,mvQ d e.2)
theorem znU (d:Int×Int) (l:List (Int×Int)):eds (mvL d l)=(eds l).map (mvE d):=by
 unfold eds mvL;rw [←List.map_tail,List.zip_map];rfl
theorem zoc (d:Int×Int) (x:Rat) (e:Edg):xLe (x+(d.1:Rat)) (mvE d e)=xLe x e:=by
 unfold xLe mvE mvQ;rw [decide_eq_decide,zcS,zcS];dsimp only;rw [Rat.intCast_add]
 grind
theorem znC (d:Int×Int) (x:Rat) (e:Edg):atE (x+(d.1:Rat)) (mvE d e)=atE x e+(d.2:Rat):=by
 unfold atE mvE mvQ;dsimp only
 rw [show e.2.2+d.2-(e.1.2+d.2)=e.2.2-e.1.2 by omega,show e.2.1+d.1-(e.1.1+d.1)=e.2.1-e.1.1 by omega,Rat.intCast_add e.1.1,Rat.intCast_add e.1.2,
  show x+(d.1:Rat)-((e.1.1:Rat)+(d.1:Rat))=x-(e.1.1:Rat) by grind]
 grind
theorem zg8 (d:Int×Int) {l:List (Int×Int)} (h:l≠[]) (x:Rat):atR (mvL d l) (x+(d.1:Rat))=atR l x+(d.2:Rat):=by
 unfold atR;rw [znU,List.find?_map,show xLe (x+(d.1:Rat)) ∘ mvE d=xLe x from funext fun e=>zoc d x e]
 cases (eds l).find? (xLe x)with
 | some e=>exact znC d x e
 | none =>
  have b:=List.length_pos_iff.2 h;have a:(mvL d l).length=l.length:=by unfold mvL;rw [lL]
  show ((((mvL d l).getD ((mvL d l).length-1) (0,0)).2:Int):Rat)=(((l.getD (l.length-1) (0,0)).2:Int):Rat)+(d.2:Rat)
  rw [a,zgM d l oM,←Rat.intCast_add];rfl
def mvS (d:Int×Int) (s:Sp):Sp:=⟨mvL d s.over,mvL d s.under,s.lo+d.1,s.hi+d.1⟩
theorem zl0 (d:Int×Int) {a b:List (Int×Int)} (c:a≠[]) (e:b≠[]):btw (mvL d a) (mvL d b)=mvS d (btw a b):=by
 unfold btw mvS;rw [(zaX d c).1,(zaX d c).2,(zaX d e).1,(zaX d e).2];dsimp only;rw [show max (lineL a+d.1) (lineL b+d.1)=max (lineL a) (lineL b)+d.1 by omega,show min (lineR a+d.1) (lineR b+d.1)=min (lineR a) (lineR b)+d.1 by omega]
theorem zmL (d:Int×Int) {s:Sp} (a:s.over≠[]) (b:s.under≠[]) (x:Rat):gapR (mvS d s) (x+(d.1:Rat))=gapR s x:=by
 unfold gapR mvS;rw [zg8 d a,zg8 d b]
 grind
theorem zjG (f:Int→Int) (b:∀x y,f x=f y→x=y) (l:List Int) {j:Nat} (c:j<l.length):keeps (l.map f).toArray j=keeps l.toArray j:=by
 unfold keeps;rw [decide_eq_decide]
 have g:∀k,k<l.length→(l.map f).toArray[k]! = f l.toArray[k]!:=fun k a=>by
  rw [getElem!_pos _ _ (by simpa using a),getElem!_pos _ _ (by simpa using a)];simp
 rw [g j c,g (j-1) oM]
 constructor
 ·rintro (h|h)
  ·exact .inl h
  ·exact .inr fun e=>h (by rw [e])
 ·rintro (h|h)
  ·exact .inl h
  ·exact .inr fun e=>h (b _ _ e)
theorem zgx (f:Int→Int) (b:∀x y,f x=f y→x=y) (l:List Int):compact (l.map f)=(compact l).map f:=by
 unfold compact compactUpTo;rw [lL,List.map_map];have e:(List.range l.length).filter (keeps (l.map f).toArray)=(List.range l.length).filter (keeps l.toArray):=List.filter_congr fun j c=>zjG f b l (List.mem_range.1 c)
 rw [e];refine List.map_congr_left fun k a=>?_
 have a:=List.mem_range.1 (List.mem_filter.1 a).1;rw [Function.comp_apply,getElem!_pos _ _ (by simpa using a),getElem!_pos _ _ (by simpa using a)];simp
theorem zjC (d:Int) (l:List Int):isort (l.map (·+d))=(isort l).map (·+d):=by
 unfold isort;rw [List.map_mergeSort];intro a _ b _;simp
theorem zlN (d:Int×Int) (s:Sp):stopsR (mvS d s)=(stopsR s).map (·+(d.1:Rat)):=by
 have e:stopsZ (mvS d s)=(stopsZ s).map (·+d.1):=by
  unfold stopsZ;rw [←zgx _ (fun x y h=>by omega),←zjC]
  congr 2
  have a:∀l:List (Int×Int),(l.map (mvQ d)).map (·.1)=(l.map (·.1)).map (·+d.1):=fun l=>by
   rw [List.map_map,List.map_map];rfl
  have b:inP (mvS d s) ∘ (·+d.1)=inP s:=funext fun x=>by
   unfold inP mvS;dsimp only [Function.comp_apply]
   congr 1<;>(rw [decide_eq_decide];omega)
  rw [List.map_cons,List.map_cons]
  show (s.lo+d.1)::(s.hi+d.1)::midP (mvS d s) (s.over.map (mvQ d)++s.under.map (mvQ d))=_
  unfold midP;rw [←List.map_append,a,List.filter_map,b]
 unfold stopsR;rw [e,List.map_map,List.map_map];refine List.map_congr_left fun z _=>?_
 dsimp only [Function.comp_apply];rw [Rat.intCast_add]
theorem ziY (f g:Rat→Rat) (d:Rat) (h:∀x,g (x+d)=f x) (b:List Rat) (hq:b≠[]):bestR g (b.map (·+d))=((bestR f b).1+d,(bestR f b).2):=by
 cases b with
 | nil=>exact absurd rfl hq
 | cons x a =>
  show (a.map (·+d)).foldl (bestStep g) (x+d,g (x+d))=_
  rw [h]
  show _=((a.foldl (bestStep f) (x,f x)).1+d,(a.foldl (bestStep f) (x,f x)).2)
  have key:∀(a:List Rat) (u v:Rat),(a.map (·+d)).foldl (bestStep g) (u+d,v)=((a.foldl (bestStep f) (u,v)).1+d,(a.foldl (bestStep f) (u,v)).2):=by
   intro a
   induction a with
   | nil=>intro u v;rfl
   | cons y i c =>
    intro u v;rw [List.map_cons,List.foldl_cons,List.foldl_cons]
    have e:bestStep g (u+d,v) (y+d)=((bestStep f (u,v) y).1+d,(bestStep f (u,v) y).2):=by
     unfold bestStep;rw [h];dsimp only
     split<;>rfl
    rw [e,c]
  exact key a x (f x)
theorem zhr (d:Int×Int) {s:Sp} (a:s.over≠[]) (b:s.under≠[]):leastR (mvS d s)=((leastR s).1+(d.1:Rat),(leastR s).2):=by
 unfold leastR;rw [zlN];exact ziY _ _ _ (zmL d a b) _ (zaw s)
theorem zir (d:Int×Int) {s:Sp} (a:s.over≠[]) (b:s.under≠[]) (pin:Int):reachNo (mvS d s) pin=reachNo s pin:=by
 unfold reachNo;rw [zhr d a b]
theorem ziU {d:Int×Int} {p:Pl} (h:placedOk p=true) (k:placedOk (mvP d p)=true) {t:List (Int×Int)} (c:t≠[]) (b pin:Int):(bedO (mvP d p) (mvL d t) b pin).map (·.num)=(bedO p t b pin).map (·.num):=by
 have a:=(zag h).2.2.2.1;unfold bedO;rw [zdn h k,zl0 d a c]
 have e:((mvS d (btw (lowP2 p) t)).lo<(mvS d (btw (lowP2 p) t)).hi) ↔ ((btw (lowP2 p) t).lo<(btw (lowP2 p) t).hi):=by
  unfold mvS;dsimp only;omega
 by_cases q:(btw (lowP2 p) t).lo<(btw (lowP2 p) t).hi
 ·rw [if_pos q,if_pos (e.2 q),Option.map_map,Option.map_map]
  unfold reachP;rw [zir d (s:=btw (lowP2 p) t) a c]
  split<;>rfl
 ·rw [if_neg q,if_neg (fun f=>q (e.1 f))]
theorem zkX {d:Int×Int} {g:List (Int×Int)} {ps:List Pl} (e:g≠[]) (h:∀p∈ps,placedOk p=true) (k:∀p∈ps,placedOk (mvP d p)=true) {p:Pl} (hp:p∈ps) (a:Nat) (pin b:Int) :
  (bedAt (mvL d g) (ps.map (mvP d)) a (mvP d p) pin b).map (·.num)=(bedAt g ps a p pin b).map (·.num):=by
 unfold bedAt
 split
 ·rfl
 ·split
  ·exact ziU (h p hp) (k p hp) e b pin
  ·rw [lP]
   cases hq:ps[b.toNat]? with
   | none=>rfl
   | some q =>
    have c:=lM hq;dsimp only [Option.map_some];rw [show meetB (mvP d p) (mvP d q)=meetB p q from rfl,zlx (h q c) (k q c)]
    split
    ·exact ziU (h p hp) (k p hp) (zag (h q c)).2.2.2.2 b pin
    ·rfl
theorem zof {d:Int×Int} {g:List (Int×Int)} {ps:List Pl} (b:g≠[]) (h:∀p∈ps,placedOk p=true) (k:∀p∈ps,placedOk (mvP d p)=true) {p:Pl} (hp:p∈ps) (a:Nat) (pin:Int) (n:Nat) :
  (bedsN (mvL d g) (ps.map (mvP d)) a (mvP d p) pin n).map (·.num)=(bedsN g ps a p pin n).map (·.num):=by
 unfold bedsN;rw [List.map_filterMap,List.map_filterMap];simp only [zkX b h k hp]
end
section
open Go.RowKit Go.Shelf Go.Sort
def mirB (k:Int):Int:=if k=1 then 2 else if k=2 then 1 else if k=3 then 4 else if k=4 then 3 else 5
theorem zlz {p q:Pl} (hp:placedOk p=true) (hq:placedOk q=true) (D:lineL (lowP2 q)<lineR (lowP2 p)) (K:lineL (lowP2 p)<lineR (lowP2 q)) (a:freeB (lowP2 p) (upP2 q)=true) (b:freeB (lowP2 q) (upP2 p)=true):False:=by
 obtain⟨c,d,o,e,f⟩:=zag hp;obtain⟨g,i,r,j,l⟩:=zag hq;have m:(btw (lowP2 p) (upP2 q)).lo<(btw (lowP2 p) (upP2 q)).hi:=by unfold btw;dsimp only;omega
 have n:(btw (lowP2 q) (upP2 p)).lo<(btw (lowP2 q) (upP2 p)).hi:=by unfold btw;dsimp only;omega
 unfold freeB at a b;rw [if_pos m,decide_eq_true_eq]at a;rw [if_pos n,decide_eq_true_eq]at b;have w:(btw (lowP2 p) (upP2 q)).lo=max (lineL (lowP2 p)) (lineL (lowP2 q)):=by unfold btw;rw [g]
 have x:(btw (lowP2 p) (upP2 q)).hi=min (lineR (lowP2 p)) (lineR (lowP2 q)):=by unfold btw;rw [i]
 have y:(btw (lowP2 q) (upP2 p)).lo=max (lineL (lowP2 q)) (lineL (lowP2 p)):=by unfold btw;rw [c]
 have z:(btw (lowP2 q) (upP2 p)).hi=min (lineR (lowP2 q)) (lineR (lowP2 p)):=by unfold btw;rw [d]
 obtain⟨k,P⟩:=gX (max (lineL (lowP2 p)) (lineL (lowP2 q)));have s:=zfR (zam hp).1 (zax hq).1 e l a (k:=k) oM oM;have t:=zfR (zam hq).1 (zax hp).1 j f b (k:=k) oM oM;have u:=zfj hp (k:=k) oM oM;have v:=zfj hq (k:=k) oM oM
 grind
theorem zmk (p q:Pl):1≤relP p q∧relP p q≤5:=by
 unfold relP
 repeat' split
 all_goals omega
theorem zow {p q:Pl} (hp:placedOk p=true) (hq:placedOk q=true):relP q p=mirB (relP p q):=by
 have f:=(zag hp).2.2.1;have g:=(zag hq).2.2.1;have e:=zlz hp hq;unfold relP mirB
 by_cases b:lineR (lowP2 p)≤lineL (lowP2 q)
 ·simp [b,show ¬lineR (lowP2 q)≤lineL (lowP2 p) by omega]
 ·by_cases d:lineR (lowP2 q)≤lineL (lowP2 p)
  ·simp [b,d]
  ·by_cases c:freeB (lowP2 p) (upP2 q)=true
   ·by_cases a:freeB (lowP2 q) (upP2 p)=true
    ·exact(e oM oM c a).elim
    ·simp [b,d,c,a]
   ·by_cases a:freeB (lowP2 q) (upP2 p)=true<;>simp [b,d,c,a]
theorem zhj (d:Int×Int) {a b:List (Int×Int)} (c:a≠[]) (f:b≠[]):freeB (mvL d a) (mvL d b)=freeB a b:=by
 unfold freeB;rw [zl0 d c f,zhr d (s:=btw a b) c f]
 have e:((mvS d (btw a b)).lo<(mvS d (btw a b)).hi) ↔ ((btw a b).lo<(btw a b).hi):=by
  unfold mvS;dsimp only;omega
 by_cases q:(btw a b).lo<(btw a b).hi
 ·rw [if_pos q,if_pos (e.2 q)]
 ·rw [if_neg q,if_neg (fun g=>q (e.1 g))]
theorem zoE {d:Int×Int} {p q:Pl} (hp:placedOk p=true) (hq:placedOk q=true) (c:placedOk (mvP d p)=true) (e:placedOk (mvP d q)=true):relP (mvP d p) (mvP d q)=relP p q:=by
 obtain⟨_,_,_,a,f⟩:=zag hp;obtain⟨_,_,_,b,g⟩:=zag hq;unfold relP;rw [zdn hp c,zdn hq e,zlx hp c,zlx hq e,(zaX d a).1,(zaX d a).2,(zaX d b).1,(zaX d b).2,zhj d a g,zhj d b f];have i:(lineR (lowP2 p)+d.1≤lineL (lowP2 q)+d.1) ↔ (lineR (lowP2 p)≤lineL (lowP2 q)):=oM
 have j:(lineR (lowP2 q)+d.1≤lineL (lowP2 p)+d.1) ↔ (lineR (lowP2 q)≤lineL (lowP2 p)):=oM
 simp only [i,j]
theorem zlT {l:List (Int×Int)} (d:Rise l) (m:l≠[]) {k:Int} (i:lineL l≤k) (j:k<lineR l) {x:Rat} (x1:(k:Rat)≤x) (n:x≤((k+1:Int):Rat)) :
  atR l x=(((k+1:Int):Rat)-x)*atR l (k:Rat)+(x-(k:Rat))*atR l ((k+1:Int):Rat):=by
 obtain⟨e,c,g,r,_⟩:=zbL m i j;have a:((e.1.1:Int):Rat)≤(k:Rat):=Rat.intCast_le_intCast.2 g;have b:((k+1:Int):Rat)≤((e.2.1:Int):Rat):=Rat.intCast_le_intCast.2 oM;have f:(k:Rat)≤((k+1:Int):Rat):=Rat.intCast_le_intCast.2 oM;rw [zc7 d c (Rat.le_trans a x1) (Rat.le_trans n b),zc7 d c a (Rat.le_trans f b),zc7 d c (Rat.le_trans a f) b];have s:=zbe e (k:Rat) ((k+1:Int):Rat) x
 have o:((k+1:Int):Rat)-(k:Rat)=1:=by
  rw [Rat.intCast_add];have:((1:Int):Rat)=1:=rfl
  grind
 rw [o,Rat.one_mul]at s;exact s
theorem zfd (k:Int) (e:Edg) (h:e.1.1<e.2.1):atE (k:Rat) e*((e.2.1-e.1.1:Int):Rat)=(((e.2.1-e.1.1)*e.1.2+(k-e.1.1)*(e.2.2-e.1.2):Int):Rat):=by
 have c:((e.2.1-e.1.1:Int):Rat)≠0:=by
  intro b;have:(e.2.1-e.1.1:Int)=0:=by exact_mod_cast b
  omega
 unfold atE
 generalize hq:(((k:Rat)-((e.1.1:Int):Rat))*((e.2.2-e.1.2:Int):Rat)) / ((e.2.1-e.1.1:Int):Rat)=q
 have a:q*((e.2.1-e.1.1:Int):Rat)=((k:Rat)-((e.1.1:Int):Rat))*((e.2.2-e.1.2:Int):Rat):=by rw [←hq,Rat.div_mul_cancel c]
 simp only [Rat.intCast_add,Rat.intCast_mul,Rat.intCast_sub]at a ⊢
 grind
theorem zeC {p:Pl} (h:placedOk p=true) {k:Int} (f:lineL (lowP2 p)≤k) (g:k<lineR (lowP2 p)) :
  ∃a b c d,LowE (cornersP p) a b∧UpE (cornersP p) c d∧a.1≤k∧k<b.1∧d.1≤k∧k<c.1∧a∈lowP2 p∧(a,b)∈eds (lowP2 p)∧(d,c)∈eds (upP2 p):=by
 obtain⟨v,w,_,s,t⟩:=zag h;obtain⟨u,_,o⟩:=zam h;obtain⟨_,_,r⟩:=zax h;obtain⟨⟨a,b⟩,e,j,l,x⟩:=zbL s f g;obtain⟨⟨d,c⟩,i,m,n,y⟩:=zbL t (by rw [v];exact f) (by rw [w];exact g);exact⟨a,b,c,d,o _ e,r _ i,j,l,m,n,(u.between e).1,e,i⟩
theorem zje {p:Pl} (h:placedOk p=true) {k:Int} (h1:lineL (lowP2 p)<k) (h2:k<lineR (lowP2 p)):atR (lowP2 p) (k:Rat)<atR (upP2 p) (k:Rat):=by
 have f:=zaQ h;obtain⟨P,K,_⟩:=zam h;obtain⟨r2,_,_⟩:=zax h;obtain⟨a,b,c,d,⟨r,aa⟩,⟨i,ac⟩,Q,a2,T,b2,x,he,hf⟩:=zeC h oM h2;have W:=f.left0 r i.mem.1;have v:=f.left0 r i.mem.2;have q1:atR (lowP2 p) (k:Rat)=atE (k:Rat) (a,b):=zc7 P he (Rat.intCast_le_intCast.2 Q) (Rat.intCast_le_intCast.2 dO);have q2:atR (upP2 p) (k:Rat)=atE (k:Rat) (d,c):=zc7 r2 hf (Rat.intCast_le_intCast.2 T) (Rat.intCast_le_intCast.2 dO);rw [q1,q2]
 have n:∀q,q∈cornersP p→trn a b q=0→q=a∨q=b:=fun q hq z=>by
  apply Classical.byContradiction
  intro l;have:=f.left a b r q hq (fun e=>l (.inl e)) (fun e=>l (.inr e));omega
 have p1:0≤(k-d.1)*trn a b c:=Int.mul_nonneg oM W;have p2:0≤(c.1-k)*trn a b d:=Int.mul_nonneg oM v
 have D:0<(k-d.1)*trn a b c+(c.1-k)*trn a b d:=by
  apply Classical.byContradiction
  intro hn
  have z1:trn a b d=0:=by
   rcases Int.lt_or_eq_of_le v with u|u
   ·have:=Int.mul_pos (show 0<c.1-k by omega) u
    omega
   ·exact u.symm
  have z0:(k-d.1)*trn a b c=0:=oM
  rcases n d i.mem.2 z1 with rfl|rfl
  ·rcases Int.mul_eq_zero.1 z0 with z|z
   ·
    obtain⟨o,g,c',d',⟨m,y⟩,_,x1,x2,_,_,_,t,_⟩:=zeC h (k:=k-1) oM oM;have j:=P.between t;dsimp only at j
    have ab:g.1=k:=by
     have:=j.2.2.2 d x;omega
    have s:g=d:=LowV.uniq f ((K g).1 j.2.1) ((K d).1 x) oM;subst s;have w1:=f.left o g m c i.mem.1 (fun e=>by subst e;omega) (fun e=>by subst e;omega);have w2:=f.left c g i o m.mem.1 (fun e=>by subst e;omega) (fun e=>by subst e;omega);have:trn o g c+trn c g o=0:=by unfold trn;grind
    omega
   ·rcases n c i.mem.1 z with rfl|rfl
    ·omega
    ·obtain⟨q,hq,w,l⟩:=third f d c
     have w1:=f.left d c r q hq w l;have w2:=f.left c d i q hq l w;have:trn d c q+trn c d q=0:=by unfold trn;grind
     omega
  ·omega
 refine zgc (p:=b.1-a.1) (q:=c.1-d.1) oM oM (zfd k (a,b) dO) (zfd k (d,c) dO) ?_;dsimp only
 have e:((c.1-d.1)*d.2+(k-d.1)*(c.2-d.2))*(b.1-a.1)-((b.1-a.1)*a.2+(k-a.1)*(b.2-a.2))*(c.1-d.1)=(k-d.1)*trn a b c+(c.1-k)*trn a b d:=by
  unfold trn
  grind
 omega
theorem zmK (k:Int):xh k=(1-1 / 2)*(k:Rat)+1 / 2*((k+1:Int):Rat):=by
 unfold xh;rw [Rat.intCast_add,Rat.intCast_add,Rat.intCast_mul,Rat.div_def,Rat.div_def];have:((1:Int):Rat)=1:=rfl;have:((2:Int):Rat)=2:=rfl
 grind
theorem zl4 {p:Pl} (h:placedOk p=true) {k:Int} (h1:lineL (lowP2 p)≤k) (h2:k≤lineR (lowP2 p)):atR (lowP2 p) (k:Rat)≤atR (upP2 p) (k:Rat):=by
 have u:=zaQ h;obtain⟨W,_,_⟩:=zam h;obtain⟨r2,_,_⟩:=zax h;obtain⟨_,_,s3,_,_⟩:=zag h
 obtain⟨f,g,i,K,P⟩:∃f,lineL (lowP2 p)≤f∧f<lineR (lowP2 p)∧f≤k∧k≤f+1:=by
  by_cases h9:k=lineR (lowP2 p)
  ·exact⟨k-1,by omega,by omega,by omega,by omega⟩
  ·exact⟨k,by omega,by omega,by omega,by omega⟩
 obtain⟨a,b,c,d,⟨s,x⟩,⟨t,y⟩,a1,a2,b1,b2,_,z,D⟩:=zeC h g i;have v:=u.left0 s t.mem.1;have w:=u.left0 s t.mem.2;have Q:atR (lowP2 p) (k:Rat)=atE (k:Rat) (a,b):=zc7 W z (Rat.intCast_le_intCast.2 dO) (Rat.intCast_le_intCast.2 dO);have T:atR (upP2 p) (k:Rat)=atE (k:Rat) (d,c):=zc7 r2 D (Rat.intCast_le_intCast.2 dO) (Rat.intCast_le_intCast.2 dO);rw [Q,T];have p1:0≤(k-d.1)*trn a b c:=Int.mul_nonneg oM v;have p2:0≤(c.1-k)*trn a b d:=Int.mul_nonneg oM w;refine Rat.not_lt.1 fun j=>?_
 have o:=zfd k (a,b) dO;have r:=zfd k (d,c) dO;dsimp only at o r
 have e:((c.1-d.1)*d.2+(k-d.1)*(c.2-d.2))*(b.1-a.1)-((b.1-a.1)*a.2+(k-a.1)*(b.2-a.2))*(c.1-d.1)=(k-d.1)*trn a b c+(c.1-k)*trn a b d:=by
  unfold trn
  grind
 have m:(0:Rat)<((b.1-a.1:Int):Rat):=by exact_mod_cast (show 0<b.1-a.1 by omega)
 have n:(0:Rat)<((c.1-d.1:Int):Rat):=by exact_mod_cast (show 0<c.1-d.1 by omega)
 have hm:=Rat.mul_lt_mul_of_pos_right (Rat.mul_lt_mul_of_pos_right j m) n;have l:atE (k:Rat) (d,c)*((c.1-d.1:Int):Rat)*((b.1-a.1:Int):Rat)<atE (k:Rat) (a,b)*((b.1-a.1:Int):Rat)*((c.1-d.1:Int):Rat):=by grind
 rw [o,r,←Rat.intCast_mul,←Rat.intCast_mul,Rat.intCast_lt_intCast]at l;omega
theorem h12:(0:Rat)<1 / 2:=by decide +kernel
theorem h121:(1 / 2:Rat)<1:=by decide +kernel
def linR (t a b:Rat):Rat:=(1-t)*a+t*b
theorem zft {n d:Rat} (f:0<n) (c:n<d):∃t:Rat,0<t∧t<1∧t*d=n:=by
 have a:0<d:=by grind
 have b:d≠0:=fun e=>by rw [e]at a;exact Rat.lt_irrefl a
 refine⟨n / d,?_,?_,Rat.div_mul_cancel b⟩
 ·refine Rat.not_le.1 fun h=>?_
  have:=Rat.mul_le_mul_of_nonneg_right h (Rat.le_of_lt a);rw [Rat.div_mul_cancel b]at this
  grind
 ·refine Rat.not_le.1 fun h=>?_
  have:=Rat.mul_le_mul_of_nonneg_right h (Rat.le_of_lt a);rw [Rat.div_mul_cancel b]at this
  grind
theorem zd0 {t a b:Rat} (e:0<t) (j:t<1) (f:0≤a) (i:0≤b) (g:0<a+b):0<linR t a b:=by
 unfold linR;have d:0<1-t:=by grind
 have k:=Rat.mul_nonneg (Rat.le_of_lt d) f;have l:=Rat.mul_nonneg (Rat.le_of_lt e) i
 by_cases c:0<a
 ·have:=Rat.mul_pos d c
  grind
 ·have:0<b:=by grind
  have:=Rat.mul_pos e this
  grind
theorem zkh {a b:Rat} (h:0<a∨0<b):∃t:Rat,0<t∧t<1∧0<linR t a b:=by
 by_cases c:0≤a∧0≤b
 ·exact⟨1 / 2,h12,h121,zd0 h12 h121 c.1 c.2 (by grind)⟩
 ·by_cases g:0<a
  ·have i:b<0:=by grind
   obtain⟨t,e,f,j⟩:=zft (n:=a) (d:=2*(a-b)) g (by grind);exact⟨t,e,f,by unfold linR;grind⟩
  ·have i:0<b:=by grind
   have k:a<0:=by grind
   obtain⟨t,e,f,j⟩:=zft (n:=b-2*a) (d:=2*(b-a)) (by grind) (by grind);exact⟨t,e,f,by unfold linR;grind⟩
theorem zk5 {f0 f a g:Rat} (r:∀t:Rat,0<t→t<1→0<linR t f0 f+linR t a g) (w:0<f0∨0<f) (x:0<a∨0<g):∃t:Rat,0<t∧t<1∧0<linR t f0 f∧0<linR t a g:=by
 have le:∀{i j k l t:Rat},0<t→t<1→i≤k→j≤l→linR t i j≤linR t k l:=fun {i j k l t} b c u v=>by
  have D:=Rat.mul_le_mul_of_nonneg_left u (show 0≤1-t by grind);have K:=Rat.mul_le_mul_of_nonneg_left v (Rat.le_of_lt b);unfold linR
  grind
 by_cases m:a≤f0∧g≤f
 ·obtain⟨t,b,c,h⟩:=zkh x
  have:=le b c m.1 m.2;exact⟨t,b,c,by grind,h⟩
 ·by_cases o:f0≤a∧f≤g
  ·obtain⟨t,b,c,h⟩:=zkh w
   have:=le b c o.1 o.2;exact⟨t,b,c,h,by grind⟩
  ·by_cases y:a<f0
   ·have s:f<g:=by grind
    obtain⟨t,b,c,h⟩:=zft (n:=f0-a) (d:=(f0-a)+(g-f)) (by grind) (by grind);have e:linR t f0 f=linR t a g:=by unfold linR;grind
    have:=r t b c;exact⟨t,b,c,by grind,by grind⟩
   ·have s:g<f:=by grind
    have z:f0<a:=by grind
    obtain⟨t,b,c,h⟩:=zft (n:=a-f0) (d:=(a-f0)+(f-g)) (by grind) (by grind);have e:linR t f0 f=linR t a g:=by unfold linR;grind
    have:=r t b c;exact⟨t,b,c,by grind,by grind⟩
theorem zhN {F G:Int→Rat} {lo hi x0 x1:Int} (d:∀k,lo<k→k<hi→0<F k+G k) (j:lo≤x0) (l:x0≤x1) (t:x1≤hi) (v:lo<hi) (a:0<F x0) (u:0<G x1) :
  ∃k,lo≤k∧k<hi∧(0<F k∨0<F (k+1))∧(0<G k∨0<G (k+1)):=by
 apply Classical.byContradiction
 intro e
 have b:∀k,lo≤k→k<hi→(0<F k∨0<F (k+1))→G k≤0∧G (k+1)≤0:=fun k f g i=>by
  refine⟨Rat.not_lt.1 fun h=>e ⟨k,f,g,i,.inl h⟩,Rat.not_lt.1 fun h=>e ⟨k,f,g,i,.inr h⟩⟩
 have key:∀n:Nat,x0+n≤x1→G (x0+n)≤0∧(x0+n<hi→0<F (x0+n)):=by
  intro n
  induction n with
  | zero =>
   intro _;rw [Int.natCast_zero,Int.add_zero];refine⟨?_,fun _=>a⟩
   by_cases c:x0<hi
   ·exact(b x0 j c (.inl a)).1
   ·have:=(b (x0-1) oM oM (.inr (by rw [Int.sub_add_cancel];exact a))).2
    rw [Int.sub_add_cancel]at this;exact this
  | succ n s =>
   intro h;obtain⟨w,o⟩:=s oM;have r:=(b (x0+n) oM oM (.inl (o oM))).2;rw [show x0+((n+1:Nat):Int)=x0+(n:Int)+1 by omega];refine⟨r,fun m=>?_⟩;have:=d (x0+(n:Int)+1) oM m
   grind
 have:=(key (x1-x0).toNat oM).1;rw [show x0+((x1-x0).toNat:Int)=x1 by omega]at this
 grind
theorem zhA {L U:List (Int×Int)} (h:freeB L U=false):(btw L U).lo<(btw L U).hi∧∃z:Int,(btw L U).lo≤z∧z≤(btw L U).hi∧atR L (z:Rat)<atR U (z:Rat):=by
 unfold freeB at h
 by_cases ho:(btw L U).lo<(btw L U).hi
 ·refine⟨ho,?_⟩
  rw [if_pos ho,decide_eq_false_iff_not]at h;obtain⟨e,d⟩:=zav (gapR (btw L U)) (zaw (btw L U));obtain⟨z,f,c⟩:=List.mem_map.1 e;have b:=zaF ho f;refine⟨z,b.1,b.2,?_⟩
  have a:(leastR (btw L U)).2<0:=by
   rw [←num_lt0,←Int.sign_neg_iff];omega
  unfold leastR at a;rw [d,←c]at a;unfold gapR btw at a;dsimp only at a
  grind
 ·rw [if_neg ho]at h
  cases h
theorem zdi {l:List (Int×Int)} (e:Rise l) (d:l≠[]) {k:Int} (b:lineL l≤k) (c:k<lineR l) {t:Rat} (t0:0≤t) (f:t≤1) :
  atR l ((k:Rat)+t)=linR t (atR l (k:Rat)) (atR l ((k+1:Int):Rat)):=by
 have a:((k+1:Int):Rat)=(k:Rat)+1:=by rw [Rat.intCast_add];rfl
 rw [zlT e d b c (x:=(k:Rat)+t) (by grind) (by rw [a];grind)];unfold linR;rw [a]
 grind
theorem zjf {p:Pl} (h:placedOk p=true) {k:Int} (d:lineL (lowP2 p)≤k) (e:k<lineR (lowP2 p)) :
  0≤atR (upP2 p) (k:Rat)-atR (lowP2 p) (k:Rat)∧0≤atR (upP2 p) ((k+1:Int):Rat)-atR (lowP2 p) ((k+1:Int):Rat)∧0<(atR (upP2 p) (k:Rat)-atR (lowP2 p) (k:Rat))+(atR (upP2 p) ((k+1:Int):Rat)-atR (lowP2 p) ((k+1:Int):Rat)):=by
 obtain⟨l,m,_,i,j⟩:=zag h;have a:=zl4 h d (Int.le_of_lt e);have b:=zl4 h (k:=k+1) oM oM;have c:=zfj h d e;have f:((k+1:Int):Rat)=(k:Rat)+1:=by rw [Rat.intCast_add];rfl
 have g:xh k=(k:Rat)+1 / 2:=by rw [zmK,f];grind
 rw [g,zdi (zam h).1 i d e (Rat.le_of_lt h12) (Rat.le_of_lt h121),zdi (zax h).1 j oM oM (Rat.le_of_lt h12) (Rat.le_of_lt h121)]at c;unfold linR at c;refine⟨by grind,by grind,by grind⟩
theorem zm3 {p q:Pl} (hp:placedOk p=true) (hq:placedOk q=true) (g:relP p q=5) :
  ∃(k:Int) (t:Rat),max (lineL (lowP2 p)) (lineL (lowP2 q))≤k∧k<min (lineR (lowP2 p)) (lineR (lowP2 q))∧0<t∧t<1 ∧
   atR (lowP2 p) ((k:Rat)+t)<atR (upP2 p) ((k:Rat)+t)∧atR (lowP2 q) ((k:Rat)+t)<atR (upP2 q) ((k:Rat)+t) ∧
   atR (lowP2 p) ((k:Rat)+t)<atR (upP2 q) ((k:Rat)+t)∧atR (lowP2 q) ((k:Rat)+t)<atR (upP2 p) ((k:Rat)+t):=by
 obtain⟨a1,a2,a3,a4,a5⟩:=zag hp;obtain⟨b1,b2,b3,b4,b5⟩:=zag hq
 have Q:freeB (lowP2 p) (upP2 q)=false∧freeB (lowP2 q) (upP2 p)=false:=by
  unfold relP at g
  cases f1:freeB (lowP2 p) (upP2 q)<;>cases f2:freeB (lowP2 q) (upP2 p)<;>simp only [f1,f2,if_true]at g ⊢
  all_goals(split at g<;>first|omega|(split at g<;>first|omega|simp_all))
 obtain⟨o1,z,T,W,i3⟩:=zhA Q.1;obtain⟨o2,D,j1,j2,j3⟩:=zhA Q.2;unfold btw at o1 T W o2 j1 j2;dsimp only at o1 T W o2 j1 j2;obtain⟨lo,ab⟩:=gX (max (lineL (lowP2 p)) (lineL (lowP2 q)));obtain⟨hi,aa⟩:=gX (min (lineR (lowP2 p)) (lineR (lowP2 q)));obtain⟨F,e⟩:∃F:Int→Rat,F=fun k:Int=>atR (upP2 q) (k:Rat)-atR (lowP2 p) (k:Rat):=⟨_,rfl⟩
 obtain⟨G,f⟩:∃G:Int→Rat,G=fun k:Int=>atR (upP2 p) (k:Rat)-atR (lowP2 q) (k:Rat):=⟨_,rfl⟩
 have K:0<F z:=by rw [e];dsimp only;grind
 have P:0<G D:=by rw [f];dsimp only;grind
 have d:∀k,lo<k→k<hi→0<F k+G k:=fun k i j=>by
  have u:=zje hp (k:=k) oM oM;have v:=zje hq (k:=k) oM oM;rw [e,f];dsimp only
  grind
 have hk:∃k,lo≤k∧k<hi∧(0<F k∨0<F (k+1))∧(0<G k∨0<G (k+1)):=by
  by_cases c:z≤D
  ·exact zhN d oM c oM oM K P
  ·obtain⟨k,i,j,l,m⟩:=zhN (F:=G) (G:=F) (lo:=lo) (hi:=hi) (fun k h1 h2=>by have:=d k h1 h2;grind) (x0:=D) (x1:=z) oM oM oM oM P K
   exact⟨k,i,j,m,l⟩
 obtain⟨k,i,j,l,m⟩:=hk;obtain⟨u1,u2,u3⟩:=zjf hp (k:=k) oM oM;obtain⟨v1,v2,v3⟩:=zjf hq (k:=k) oM oM
 have hs:∀t:Rat,0<t→t<1→0<linR t (F k) (F (k+1))+linR t (G k) (G (k+1)):=fun t a b=>by
  have x1:=zd0 a b u1 u2 u3;have r:=zd0 a b v1 v2 v3;rw [e,f];unfold linR at x1 r ⊢;dsimp only
  grind
 obtain⟨t,a,b,n,o⟩:=zk5 hs l m;have x1:=zd0 a b u1 u2 u3;have r:=zd0 a b v1 v2 v3;have s:=zdi (zam hp).1 a4 (k:=k) oM oM (Rat.le_of_lt a) (Rat.le_of_lt b);have w:=zdi (zax hp).1 a5 (k:=k) oM oM (Rat.le_of_lt a) (Rat.le_of_lt b);have x:=zdi (zam hq).1 b4 (k:=k) oM oM (Rat.le_of_lt a) (Rat.le_of_lt b);have y:=zdi (zax hq).1 b5 (k:=k) oM oM (Rat.le_of_lt a) (Rat.le_of_lt b);rw [e]at n;rw [f]at o;unfold linR at x1 r s w x y n o;dsimp only at n o;refine⟨k,t,by omega,by omega,a,b,?_,?_,?_,?_⟩
 ·rw [s,w];grind
 ·rw [x,y];grind
 ·rw [s,y];grind
 ·rw [w,x];grind
end
section
open Go.RowKit Go.Shelf Go.Sort Go.Lib
theorem zar {s:Sp} {i:Nat} {a:Int} (h:(stopsZ s)[i]?=M a):(stopsR s).getD i 0=(a:Rat):=by
 unfold stopsR;rw [gD,lP,h];rfl
theorem zcp (s:Sp):(stopsZ s).length=(stopsR s).length:=by unfold stopsR;rw [lL]
theorem zcz (s:Sp) (pin:Int):reachNo s pin=false ↔ 0≤(leastR s).2∧(leastR s).2≤(pin:Rat):=by
 unfold reachNo;rw [Bool.or_eq_false_iff,decide_eq_false_iff_not,decide_eq_false_iff_not,Int.sign_neg_iff,num_lt0,zeh,Rat.not_lt,Rat.not_lt]
def reachO (s:Sp) (pin:Int):Rat×Rat:=reachN (pinG s pin) (stopsR s) ((leastR s).1,(leastR s).1) (stopsR s).length
section
variable {L U:List (Int×Int)} (rL:Rise L) (rU:Rise U) (nL:L≠[]) (nU:U≠[]) (h:(btw L U).lo<(btw L U).hi) {pin:Int} (hno:reachNo (btw L U) pin=false)
include rL rU nL nU h hno
theorem znl:∀n,n≤(stopsR (btw L U)).length→∀x,RcS (pinG (btw L U) pin) (stopsR (btw L U)) (leastR (btw L U)).1 n x →
  (((btw L U).lo:Int):Rat)≤x∧x≤(((btw L U).hi:Int):Rat)∧0≤gapR (btw L U) x∧gapR (btw L U) x≤(pin:Rat):=by
 obtain⟨u,v⟩:=(zcz _ _).1 hno
 have l:∀{i:Nat} {a:Int},(stopsZ (btw L U))[i]?=M a→(((btw L U).lo:Int):Rat)≤(a:Rat)∧(a:Rat)≤(((btw L U).hi:Int):Rat)∧0≤gapR (btw L U) (a:Rat)   := fun {i a} d=>by
  have y:=lM d;have D:=zaF h y;refine⟨Rat.intCast_le_intCast.2 D.1,Rat.intCast_le_intCast.2 D.2,Rat.le_trans u (zbJ _ _ ?_)⟩;exact List.mem_map_of_mem y
 have hi:∀i,i<(stopsR (btw L U)).length→∃a,(stopsZ (btw L U))[i]?=M a:=fun i hi=>⟨_,gE (by rw [zcp];exact hi)⟩
 intro n
 induction n with
 | zero =>
  intro _ x g
  cases g
  obtain⟨m1,m2⟩:=zav (gapR (btw L U)) (zaw (btw L U));obtain⟨z,s,e⟩:=List.mem_map.1 m1;obtain⟨i,o⟩:=List.getElem?_of_mem s;have:=l o;have T:(leastR (btw L U)).1=(z:Rat):=e.symm;have t:(leastR (btw L U)).2=gapR (btw L U) (leastR (btw L U)).1:=m2;rw [T]at t ⊢;exact⟨this.1,this.2.1,this.2.2,by rw [←t];exact v⟩
 | succ i ih =>
  intro hn x g
  rcases g with g|⟨w,rfl⟩|⟨W,r,rfl⟩
  ·exact ih oM x g
  ·obtain⟨a,d⟩:=hi i oM
   rw [zar d]at w ⊢;have:=l d;unfold pinG at w;exact⟨this.1,this.2.1,this.2.2,by grind⟩
  ·obtain⟨j,rfl⟩:∃j,i=j+1:=⟨i-1,by omega⟩
   rw [Nat.add_sub_cancel]at r ⊢;obtain⟨a,d⟩:=hi j oM;obtain⟨b,k⟩:=hi (j+1) oM;rw [zar d,zar k]at r ⊢;have m:(a:Rat)<(b:Rat):=Rat.intCast_lt_intCast.2 (zcb h d k).1
   obtain⟨K,P,Q⟩:=zfg (f:=pinG (btw L U) pin) m r (fun x k1 k2=>by
    have:=zbY rL rU nL nU h d k k1 k2;unfold pinG
    grind)
   have za:=l d;have zb:=l k
   generalize crossR (pinG (btw L U) pin) (a:Rat) (b:Rat)=c at *
   have e:gapR (btw L U) c=(pin:Rat):=by unfold pinG at Q;grind
   exact⟨Rat.le_trans za.1 K,Rat.le_trans P zb.2.1,by rw [e];exact Rat.le_trans u v,by rw [e];exact Rat.le_refl⟩
omit hno in
theorem znk {x:Rat} (u:(((btw L U).lo:Int):Rat)≤x) (v:x≤(((btw L U).hi:Int):Rat)) (hx:gapR (btw L U) x≤(pin:Rat)) :
  ∃y z,RcS (pinG (btw L U) pin) (stopsR (btw L U)) (leastR (btw L U)).1 (stopsR (btw L U)).length y∧y≤x∧RcS (pinG (btw L U) pin) (stopsR (btw L U)) (leastR (btw L U)).1 (stopsR (btw L U)).length z∧x≤z:=by
 obtain⟨i,a,b,o,g,q1,q2⟩:=zkt h u v;have hi:=(lS.1 g).1;rw [zcp]at hi;have T:(a:Rat)<(b:Rat):=Rat.intCast_lt_intCast.2 (zcb h o g).1;have D:=fun x u v=>zbY rL rU nL nU h o g (x:=x) u v
 have ga:gapR (btw L U) (a:Rat)≤(pin:Rat)→RcS (pinG (btw L U) pin) (stopsR (btw L U)) (leastR (btw L U)).1 (stopsR (btw L U)).length (a:Rat):=fun k=>by
  refine RcS.mono (n:=i+1) (.inr (.inl ⟨?_,(zar o).symm⟩)) oM;rw [zar o];unfold pinG
  grind
 have gb:gapR (btw L U) (b:Rat)≤(pin:Rat)→RcS (pinG (btw L U) pin) (stopsR (btw L U)) (leastR (btw L U)).1 (stopsR (btw L U)).length (b:Rat):=fun k=>by
  refine RcS.mono (n:=i+1+1) (.inr (.inl ⟨?_,(zar g).symm⟩)) oM;rw [zar g];unfold pinG
  grind
 have Q:pinG (btw L U) pin (b:Rat)*pinG (btw L U) pin (a:Rat)<0→RcS (pinG (btw L U) pin) (stopsR (btw L U)) (leastR (btw L U)).1 (stopsR (btw L U)).length (crossR (pinG (btw L U) pin) (a:Rat) (b:Rat)):=fun k=>by
  refine RcS.mono (n:=i+1+1) (.inr (.inr ⟨by omega,?_,?_⟩)) oM
  ·rw [Nat.add_sub_cancel,zar o,zar g];exact k
  ·rw [Nat.add_sub_cancel,zar o,zar g]
 have ab:=D x q1 q2
 have s:=fun k=>zfg (f:=pinG (btw L U) pin) T k (fun x u v=>by
  have:=D x u v;unfold pinG
  grind)
 have t:∀c,(a:Rat)≤c→c≤(b:Rat)→pinG (btw L U) pin c=0→((b:Rat)-(a:Rat))*(pin:Rat)=((b:Rat)-c)*gapR (btw L U) (a:Rat)+(c-(a:Rat))*gapR (btw L U) (b:Rat):=fun c l m r=>by
  have:=D c l m;unfold pinG at r
  grind
 have j:pinG (btw L U) pin (b:Rat)*pinG (btw L U) pin (a:Rat)<0→(a:Rat)≤crossR (pinG (btw L U) pin) (a:Rat) (b:Rat)∧crossR (pinG (btw L U) pin) (a:Rat) (b:Rat)≤(b:Rat)∧((b:Rat)-(a:Rat))*(pin:Rat)=((b:Rat)-crossR (pinG (btw L U) pin) (a:Rat) (b:Rat))*gapR (btw L U) (a:Rat)+(crossR (pinG (btw L U) pin) (a:Rat) (b:Rat)-(a:Rat))*gapR (btw L U) (b:Rat):=fun k=>by
  obtain⟨l,m,r⟩:=s k;exact⟨l,m,t _ l m r⟩
 clear s t D
 generalize crossR (pinG (btw L U) pin) (a:Rat) (b:Rat)=c at *
 rw [show pinG (btw L U) pin (b:Rat)=gapR (btw L U) (b:Rat)-(pin:Rat)from rfl,show pinG (btw L U) pin (a:Rat)=gapR (btw L U) (a:Rat)-(pin:Rat)from rfl]at Q j
 generalize gapR (btw L U) (a:Rat)=A at *
 generalize gapR (btw L U) (b:Rat)=B at *
 generalize gapR (btw L U) x=X at *
 generalize (pin:Rat)=P at *
 generalize (a:Rat)=a' at *
 generalize (b:Rat)=b' at *
 have e:0<b'-a':=by grind
 have left:∃y,RcS (pinG (btw L U) pin) (stopsR (btw L U)) (leastR (btw L U)).1 (stopsR (btw L U)).length y∧y≤x:=by
  by_cases cA:A≤P
  ·exact⟨a',ga cA,q1⟩
  ·have hB:B≤P:=by
    refine Rat.not_lt.1 fun d=>?_
    have m1:=Rat.mul_nonneg (show 0≤b'-x by grind) (show 0≤A-P by grind);have m2:=Rat.mul_nonneg (show 0≤x-a' by grind) (show 0≤B-P by grind);have w:=Rat.mul_nonneg (Rat.le_of_lt e) (show 0≤P-X by grind)
    by_cases aa:x=b'
    ·subst aa
     have:=Rat.mul_pos e (show 0<B-P by grind)
     grind
    ·have:=Rat.mul_pos (show 0<b'-x by grind) (show 0<A-P by grind)
     grind
   by_cases K:B=P
   ·refine⟨b',gb hB,?_⟩
    refine Rat.not_lt.1 fun d=>?_
    have:=Rat.mul_pos (show 0<b'-x by grind) (show 0<A-P by grind);have w:=Rat.mul_nonneg (Rat.le_of_lt e) (show 0≤P-X by grind);subst K
    grind
   ·have hp:(B-P)*(A-P)<0:=by
     have:=Rat.mul_pos (show 0<P-B by grind) (show 0<A-P by grind)
     grind
    obtain⟨l,m,r⟩:=j hp;refine⟨c,Q hp,?_⟩;refine Rat.not_lt.1 fun d=>?_
    have:=Rat.mul_pos (show 0<c-x by grind) (show 0<A-B by grind);have w:=Rat.mul_nonneg (Rat.le_of_lt e) (show 0≤P-X by grind)
    grind
 have right:∃z,RcS (pinG (btw L U) pin) (stopsR (btw L U)) (leastR (btw L U)).1 (stopsR (btw L U)).length z∧x≤z:=by
  by_cases K:B≤P
  ·exact⟨b',gb K,q2⟩
  ·have hA:A≤P:=by
    refine Rat.not_lt.1 fun d=>?_
    have m1:=Rat.mul_nonneg (show 0≤b'-x by grind) (show 0≤A-P by grind);have m2:=Rat.mul_nonneg (show 0≤x-a' by grind) (show 0≤B-P by grind);have w:=Rat.mul_nonneg (Rat.le_of_lt e) (show 0≤P-X by grind)
    by_cases W:x=a'
    ·subst W
     have:=Rat.mul_pos e (show 0<A-P by grind)
     grind
    ·have:=Rat.mul_pos (show 0<x-a' by grind) (show 0<B-P by grind)
     grind
   by_cases cA:A=P
   ·refine⟨a',ga hA,?_⟩
    refine Rat.not_lt.1 fun d=>?_
    have:=Rat.mul_pos (show 0<x-a' by grind) (show 0<B-P by grind);have w:=Rat.mul_nonneg (Rat.le_of_lt e) (show 0≤P-X by grind);subst cA
    grind
   ·have hp:(B-P)*(A-P)<0:=by
     have:=Rat.mul_pos (show 0<B-P by grind) (show 0<P-A by grind)
     grind
    obtain⟨l,m,r⟩:=j hp;refine⟨c,Q hp,?_⟩;refine Rat.not_lt.1 fun d=>?_
    have:=Rat.mul_pos (show 0<x-c by grind) (show 0<B-A by grind);have w:=Rat.mul_nonneg (Rat.le_of_lt e) (show 0≤P-X by grind)
    grind
 obtain⟨y,h1,h2⟩:=left;obtain⟨z,h3,h4⟩:=right;exact⟨y,z,h1,h2,h3,h4⟩
theorem zdg:((((btw L U).lo:Int):Rat)≤(reachO (btw L U) pin).1∧(reachO (btw L U) pin).1≤(((btw L U).hi:Int):Rat)∧0≤gapR (btw L U) (reachO (btw L U) pin).1∧gapR (btw L U) (reachO (btw L U) pin).1≤(pin:Rat)) ∧
  ((((btw L U).lo:Int):Rat)≤(reachO (btw L U) pin).2∧(reachO (btw L U) pin).2≤(((btw L U).hi:Int):Rat)∧0≤gapR (btw L U) (reachO (btw L U) pin).2∧gapR (btw L U) (reachO (btw L U) pin).2≤(pin:Rat)) ∧
  (reachO (btw L U) pin).1≤(reachO (btw L U) pin).2∧∀x:Rat,(((btw L U).lo:Int):Rat)≤x→x≤(((btw L U).hi:Int):Rat)→gapR (btw L U) x≤(pin:Rat)→(reachO (btw L U) pin).1≤x∧x≤(reachO (btw L U) pin).2:=by
 obtain⟨d,e,a⟩:=zgd (pinG (btw L U) pin) (stopsR (btw L U)) (leastR (btw L U)).1 (stopsR (btw L U)).length;have ok:=znl rL rU nL nU h hno (stopsR (btw L U)).length (nE _);refine⟨ok _ d,ok _ e,(a _ d).2,fun x j k f=>?_⟩;obtain⟨y,z,g,c,i,b⟩:=znk rL rU nL nU h j k f;exact⟨Rat.le_trans (a y g).1 c,Rat.le_trans b (a z i).2⟩
end
end
section
open Go.RowKit Go.Shelf Go.Sort
def StrR (T:Rat→Rat) (a b:Rat):Prop:=∃α β:Rat,∀x,a≤x→x≤b→T x=α+β*x
theorem StrR.sub {T:Rat→Rat} {a b v0 c:Rat} (h:StrR T a b) (d:a≤v0) (e:c≤b):StrR T v0 c:=by
 obtain⟨α,β,h⟩:=h;exact⟨α,β,fun x f g=>h x (Rat.le_trans d f) (Rat.le_trans g e)⟩
theorem StrR.of {T:Rat→Rat} {a b:Rat} (j:a<b) (h:∀x,a≤x→x≤b→(b-a)*T x=(b-x)*T a+(x-a)*T b):StrR T a b:=by
 have c:b-a≠0:=fun e=>by grind
 obtain⟨β,k⟩:∃β:Rat,β*(b-a)=T b-T a:=⟨(T b-T a) / (b-a),Rat.div_mul_cancel c⟩;refine⟨T a-β*a,β,fun x f g=>?_⟩;have e:=h x f g
 have i:(b-a)*T x=(b-a)*(T a-β*a+β*x):=by
  rw [e]
  grind
 have d:(b-a)*(T x-(T a-β*a+β*x))=0:=by grind
 rcases Rat.mul_eq_zero.1 d with z|z
 ·exact absurd z c
 ·grind
theorem zm4 {A B x w0 a:Rat} (b:w0≤x) (d:x≤a) (h:0<A+B*x):0<A+B*w0∨0<A+B*a:=by
 by_cases c:0≤B
 ·have:=Rat.mul_nonneg c (show 0≤a-x by grind)
  right
  grind
 ·have:=Rat.mul_nonneg (show 0 ≤ -B by grind) (show 0≤x-w0 by grind)
  left
  grind
theorem StrR.le {S T:Rat→Rat} {b c x:Rat} (d:StrR S b c) (e:StrR T b c) (x0:b≤x) (x1:x≤c) (f:S b≤T b) (g:S c≤T c):S x≤T x:=by
 obtain⟨α,β,d⟩:=d;obtain⟨γ,δ,e⟩:=e;have a:=Rat.le_trans x0 x1;rw [d b Rat.le_refl a,e b Rat.le_refl a]at f;rw [d c a Rat.le_refl,e c a Rat.le_refl]at g;rw [d x x0 x1,e x x0 x1];refine Rat.not_lt.1 fun h=>?_
 rcases zm4 (A:=α-γ) (B:=β-δ) x0 x1 (by grind)with z|z<;>grind
theorem StrR.max {S T:Rat→Rat} {c d x:Rat} (g:StrR S c d) (i:StrR T c d) (x0:c≤x) (x1:x≤d) (h:S x<T x):S c<T c∨S d<T d:=by
 apply Classical.byContradiction
 intro f;have a:T c≤S c:=Rat.not_lt.1 fun e=>f (.inl e)
 have b:T d≤S d:=Rat.not_lt.1 fun e=>f (.inr e)
 have:=StrR.le i g x0 x1 a b
 grind
theorem zhC {P:Rat→Prop} {d f:Rat→Rat} {a b x:Rat} (i:P a) (j:P b) (x0:a≤x) (x1:x≤b)
  (h:((d a≤f a∧d b≤f b)∨(f a≤d a∧f b≤d b))∨∃c,P c∧a≤c∧c≤b∧d c=f c) :
  ∃v0 v1,P v0∧P v1∧a≤v0∧v0≤x∧x≤v1∧v1≤b∧((d v0≤f v0∧d v1≤f v1)∨(f v0≤d v0∧f v1≤d v1)):=by
 rcases h with h|⟨c,pc,k,l,e⟩
 ·exact⟨a,b,i,j,Rat.le_refl,x0,x1,Rat.le_refl,h⟩
 ·by_cases q:x≤c
  ·refine⟨a,c,i,pc,Rat.le_refl,x0,q,l,?_⟩
   by_cases g:d a≤f a
   ·exact .inl ⟨g,by rw [e];exact Rat.le_refl⟩
   ·exact .inr ⟨Rat.le_of_lt (Rat.not_le.1 g),by rw [e];exact Rat.le_refl⟩
  ·refine⟨c,b,pc,j,k,Rat.le_of_lt (Rat.not_le.1 q),x1,Rat.le_refl,?_⟩
   by_cases g:d b≤f b
   ·exact .inl ⟨by rw [e];exact Rat.le_refl,g⟩
   ·exact .inr ⟨by rw [e];exact Rat.le_refl,Rat.le_of_lt (Rat.not_le.1 g)⟩
theorem peak {P:Rat→Prop} {i j g L2:Rat→Rat} {d f x:Rat} (p0:P d) (p1:P f) (x0:d≤x) (x1:x≤f)
  (s1:StrR i d f) (s2:StrR j d f) (s3:StrR g d f) (s4:StrR L2 d f)
  (hT:((i d≤j d∧i f≤j f)∨(j d≤i d∧j f≤i f))∨∃c,P c∧d≤c∧c≤f∧i c=j c)
  (hL:((g d≤L2 d∧g f≤L2 f)∨(L2 d≤g d∧L2 f≤g f))∨∃c,P c∧d≤c∧c≤f∧g c=L2 c)
  (h1:g x<i x) (h2:g x<j x) (h3:L2 x<i x) (h4:L2 x<j x) :
  ∃y,P y∧d≤y∧y≤f∧g y<i y∧g y<j y∧L2 y<i y∧L2 y<j y:=by
 obtain⟨T,W,af,ag,o,a1,a2,r,ho⟩:=zhC p0 p1 x0 x1 hT;have ab:=Rat.le_trans a1 a2
 have ad:((g T≤L2 T∧g W≤L2 W)∨(L2 T≤g T∧L2 W≤g W))∨∃c,P c∧T≤c∧c≤W∧g c=L2 c:=by
  have i0:d≤W:=Rat.le_trans o ab;have i1:T≤f:=Rat.le_trans ab r
  rcases hL with (⟨k,l⟩|⟨k,l⟩)|⟨c,pc,c0,c1,e⟩
  ·exact .inl (.inl ⟨StrR.le s3 s4 o i1 k l,StrR.le s3 s4 i0 r k l⟩)
  ·exact .inl (.inr ⟨StrR.le s4 s3 o i1 k l,StrR.le s4 s3 i0 r k l⟩)
  ·by_cases k1:T≤c
   ·by_cases k2:c≤W
    ·exact .inr ⟨c,pc,k1,k2,e⟩
    ·
     have ac:=Rat.le_of_lt (Rat.not_le.1 k2);have u:=s3.sub Rat.le_refl c1;have v:=s4.sub Rat.le_refl c1
     rcases Rat.le_total (a:=g d) (b:=L2 d)with q|q
     ·exact .inl (.inl ⟨StrR.le u v o k1 q (by rw [e];exact Rat.le_refl),StrR.le u v i0 ac q (by rw [e];exact Rat.le_refl)⟩)
     ·exact .inl (.inr ⟨StrR.le v u o k1 q (by rw [e];exact Rat.le_refl),StrR.le v u i0 ac q (by rw [e];exact Rat.le_refl)⟩)
   ·have aa:=Rat.le_of_lt (Rat.not_le.1 k1)
    have u:=s3.sub c0 Rat.le_refl;have v:=s4.sub c0 Rat.le_refl;have k3:=Rat.le_trans aa ab
    rcases Rat.le_total (a:=g f) (b:=L2 f)with q|q
    ·exact .inl (.inl ⟨StrR.le u v aa i1 (by rw [e];exact Rat.le_refl) q,StrR.le u v k3 r (by rw [e];exact Rat.le_refl) q⟩)
    ·exact .inl (.inr ⟨StrR.le v u aa i1 (by rw [e];exact Rat.le_refl) q,StrR.le v u k3 r (by rw [e];exact Rat.le_refl) q⟩)
 obtain⟨m,n,s,t,w,D,K,Q,hl⟩:=zhC af ag a1 a2 ad;have t1:=s1.sub o r;have t2:=s2.sub o r;have r1:=t1.sub w Q;have r2:=t2.sub w Q;have r3:=(s3.sub o r).sub w Q;have r4:=(s4.sub o r).sub w Q;have j0:T≤n:=Rat.le_trans w (Rat.le_trans D K);have j1:m≤W:=Rat.le_trans (Rat.le_trans D K) Q
 have ae:(i m≤j m∧i n≤j n)∨(j m≤i m∧j n≤i n):=by
  rcases ho with ⟨k,l⟩|⟨k,l⟩
  ·exact .inl ⟨StrR.le t1 t2 w j1 k l,StrR.le t1 t2 j0 Q k l⟩
  ·exact .inr ⟨StrR.le t2 t1 w j1 k l,StrR.le t2 t1 j0 Q k l⟩
 have l0:d≤m:=Rat.le_trans o w;have l1:n≤f:=Rat.le_trans Q r;have l2:m≤f:=Rat.le_trans (Rat.le_trans D K) l1;have l3:d≤n:=Rat.le_trans l0 (Rat.le_trans D K)
 rcases ae with ⟨k,l⟩|⟨k,l⟩<;>rcases hl with ⟨m1,m2⟩|⟨m1,m2⟩
 ·rcases StrR.max r4 r1 D K h3 with z|z
  ·exact⟨m,s,l0,l2,by grind,by grind,by grind,by grind⟩
  ·exact⟨n,t,l3,l1,by grind,by grind,by grind,by grind⟩
 ·rcases StrR.max r3 r1 D K h1 with z|z
  ·exact⟨m,s,l0,l2,by grind,by grind,by grind,by grind⟩
  ·exact⟨n,t,l3,l1,by grind,by grind,by grind,by grind⟩
 ·rcases StrR.max r4 r2 D K h4 with z|z
  ·exact⟨m,s,l0,l2,by grind,by grind,by grind,by grind⟩
  ·exact⟨n,t,l3,l1,by grind,by grind,by grind,by grind⟩
 ·rcases StrR.max r3 r2 D K h2 with z|z
  ·exact⟨m,s,l0,l2,by grind,by grind,by grind,by grind⟩
  ·exact⟨n,t,l3,l1,by grind,by grind,by grind,by grind⟩
theorem zgL (x y:Rat):foldR (-1) [x,y]≤x∧foldR (-1) [x,y]≤y∧(foldR (-1) [x,y]=x∨foldR (-1) [x,y]=y):=by
 show pickR (-1) x y≤x∧pickR (-1) x y≤y∧(pickR (-1) x y=x∨pickR (-1) x y=y)
 unfold pickR
 by_cases c:rcmp y x = -1
 ·have:=(zgQ _ _).1 c
  rw [if_pos c];exact⟨Rat.le_of_lt this,Rat.le_refl,.inr rfl⟩
 ·rw [if_neg c]
  exact⟨Rat.le_refl,Rat.not_lt.1 fun h=>c ((zgQ _ _).2 h),.inl rfl⟩
theorem zgK (x y:Rat):x≤foldR 1 [x,y]∧y≤foldR 1 [x,y]∧(foldR 1 [x,y]=x∨foldR 1 [x,y]=y):=by
 show x≤pickR 1 x y∧y≤pickR 1 x y∧(pickR 1 x y=x∨pickR 1 x y=y)
 unfold pickR
 by_cases c:rcmp y x=1
 ·have:=(zgR _ _).1 c
  rw [if_pos c];exact⟨Rat.le_of_lt this,Rat.le_refl,.inr rfl⟩
 ·rw [if_neg c]
  exact⟨Rat.le_refl,Rat.not_lt.1 fun h=>c ((zgR _ _).2 h),.inl rfl⟩
def insS (p q:Pl):Sp:=⟨lowP2 p++upP2 p,lowP2 q++upP2 q,max (lineL (lowP2 p)) (lineL (lowP2 q)),min (lineR (lowP2 p)) (lineR (lowP2 q))⟩
def crossL (f:Rat→Rat) (y x:Rat):List Rat:=if (f y).num.sign*(f x).num.sign<0 then [crossR f y x]else []
def dif (a b:List (Int×Int)) (x:Rat):Rat:=atR a x-atR b x
def insC (p q:Pl) (y x:Rat):List Rat:=crossL (dif (upP2 p) (upP2 q)) y x++crossL (dif (lowP2 p) (lowP2 q)) y x
def insN (p q:Pl):Nat→List Rat
 | 0=>stopsR (insS p q)
 | n+1=>insN p q n++insC p q ((stopsR (insS p q)).getD n 0) ((stopsR (insS p q)).getD (n+1) 0)
def topI (p q:Pl) (x:Rat):Rat:=foldR (-1) [atR (upP2 p) x,atR (upP2 q) x]
def botI (p q:Pl) (x:Rat):Rat:=foldR 1 [atR (lowP2 p) x,atR (lowP2 q) x]
theorem zcM {p q:Pl} {x:Rat} (h:x∈stopsR (insS p q)):∀n,x∈insN p q n
 | 0=>h
 | n+1=>List.mem_append.2 (.inl (zcM h n))
theorem zid {p q:Pl} {i n:Nat} (h:i<n) {x:Rat} (a:x∈insC p q ((stopsR (insS p q)).getD i 0) ((stopsR (insS p q)).getD (i+1) 0)):x∈insN p q n:=by
 induction n with
 | zero=>omega
 | succ n b =>
  refine List.mem_append.2 ?_
  by_cases c:i=n
  ·subst c;exact .inr a
  ·exact .inl (b oM)
theorem zlr {p q:Pl} {n:Nat} {x:Rat} (h:x∈insN p q n):x∈stopsR (insS p q)∨∃i,i<n∧x∈insC p q ((stopsR (insS p q)).getD i 0) ((stopsR (insS p q)).getD (i+1) 0):=by
 induction n with
 | zero=>exact .inl h
 | succ n a =>
  rcases List.mem_append.1 h with h|h
  ·rcases a h with h|⟨i,hi,h⟩
   ·exact .inl h
   ·exact .inr ⟨i,by omega,h⟩
  ·exact .inr ⟨n,by omega,h⟩
section
variable {p q:Pl} (hp:placedOk p=true) (hq:placedOk q=true) (ho:(insS p q).lo<(insS p q).hi)
include hp hq ho
theorem zjA {i:Nat} {a b:Int} (f:(stopsZ (insS p q))[i]?=M a) (g:(stopsZ (insS p q))[i+1]?=M b) :
  a<b∧∀l,l=lowP2 p∨l=upP2 p∨l=lowP2 q∨l=upP2 q→∀{x:Rat},(a:Rat)≤x→x≤(b:Rat)→((b:Rat)-(a:Rat))*atR l x=((b:Rat)-x)*atR l (a:Rat)+(x-(a:Rat))*atR l (b:Rat):=by
 obtain⟨t,u,v,m,n⟩:=zag hp;obtain⟨w,y,z,o,r⟩:=zag hq;obtain⟨c,hno⟩:=zcb ho f g;have j:=zaF ho (lM f);have k:=zaF ho (lM g);unfold insS at j k hno;dsimp only at j k hno;refine⟨c,fun l s x d e=>?_⟩
 rcases s with rfl|rfl|rfl|rfl
 ·exact zaL (zam hp).1 m c oM oM (fun q hq=>hno q (by simp [hq])) d e
 ·exact zaL (zax hp).1 n c oM oM (fun q hq=>hno q (by simp [hq])) d e
 ·exact zaL (zam hq).1 o c oM oM (fun q hq=>hno q (by simp [hq])) d e
 ·exact zaL (zax hq).1 r c oM oM (fun q hq=>hno q (by simp [hq])) d e
theorem zdP {i:Nat} {a b:Int} (t:(stopsZ (insS p q))[i]?=M a) (u:(stopsZ (insS p q))[i+1]?=M b) {l m:List (Int×Int)}
  (v:l=lowP2 p∨l=upP2 p∨l=lowP2 q∨l=upP2 q) (w:m=lowP2 p∨m=upP2 p∨m=lowP2 q∨m=upP2 q) :
  (∀c∈crossL (dif l m) (a:Rat) (b:Rat),(a:Rat)≤c∧c≤(b:Rat)∧atR l c=atR m c) ∧
  (crossL (dif l m) (a:Rat) (b:Rat)=[]→((atR l (a:Rat)≤atR m (a:Rat)∧atR l (b:Rat)≤atR m (b:Rat))∨(atR m (a:Rat)≤atR l (a:Rat)∧atR m (b:Rat)≤atR l (b:Rat)))):=by
 obtain⟨o,s⟩:=zjA hp hq ho t u;have d:(a:Rat)<(b:Rat):=Rat.intCast_lt_intCast.2 o
 have e:∀x,(a:Rat)≤x→x≤(b:Rat)→((b:Rat)-(a:Rat))*dif l m x=((b:Rat)-x)*dif l m (a:Rat)+(x-(a:Rat))*dif l m (b:Rat):=fun x g j=>by
  have P:=s l v g j;have Q:=s m w g j;unfold dif
  grind
 unfold crossL
 by_cases c:(dif l m (a:Rat)).num.sign*(dif l m (b:Rat)).num.sign<0
 ·rw [if_pos c]
  have n:=(zdz _ _).1 c;obtain⟨z,D,K⟩:=zfg d (f:=dif l m) (by rw [Rat.mul_comm];exact n) e;refine⟨fun y r=>?_,fun h=>by cases h⟩;rw [List.mem_singleton.1 r];refine⟨z,D,?_⟩;unfold dif at K ⊢
  grind
 ·rw [if_neg c]
  refine⟨fun y r=>(by cases r),fun _=>?_⟩;have n:0≤dif l m (a:Rat)*dif l m (b:Rat):=Rat.not_lt.1 fun h=>c ((zdz _ _).2 h)
  have key:∀x y:Rat,0≤x*y→(x≤0∧y≤0)∨(0≤x∧0≤y):=fun x y h=>by
   by_cases g:x<0
   ·by_cases k:0<y
    ·have:=Rat.mul_pos (show 0 < -x by grind) k
     grind
    ·exact .inl ⟨Rat.le_of_lt g,Rat.not_lt.1 k⟩
   ·by_cases k:y<0
    ·by_cases j:0<x
     ·have:=Rat.mul_pos j (show 0 < -y by grind)
      grind
     ·exact .inl ⟨Rat.not_lt.1 j,Rat.le_of_lt k⟩
    ·exact .inr ⟨Rat.not_lt.1 g,Rat.not_lt.1 k⟩
  have:=key _ _ n;unfold dif at this
  rcases this with h|h
  ·exact .inl ⟨by grind,by grind⟩
  ·exact .inr ⟨by grind,by grind⟩
theorem znN {n:Nat} (s:n+1≤(stopsR (insS p q)).length) {x:Rat} (j:x∈insN p q n):(((insS p q).lo:Int):Rat)≤x∧x≤(((insS p q).hi:Int):Rat):=by
 rcases zlr j with h|⟨i,hi,h⟩
 ·obtain⟨z,k,rfl⟩:=List.mem_map.1 h
  have:=zaF ho k;exact⟨Rat.intCast_le_intCast.2 this.1,Rat.intCast_le_intCast.2 this.2⟩
 ·have g:i+1<(stopsZ (insS p q)).length:=by rw [zcp];omega
  obtain⟨a,c⟩:∃a,(stopsZ (insS p q))[i]?=M a:=⟨_,gE oM⟩;obtain⟨b,d⟩:∃b,(stopsZ (insS p q))[i+1]?=M b:=⟨_,gE g⟩;rw [zar c,zar d]at h;have o:=zaF ho (lM c);have r:=zaF ho (lM d);have e:(((insS p q).lo:Int):Rat)≤(a:Rat):=Rat.intCast_le_intCast.2 o.1;have f:(b:Rat)≤(((insS p q).hi:Int):Rat):=Rat.intCast_le_intCast.2 r.2
  rcases List.mem_append.1 h with h|h
  ·have:=(zdP hp hq ho c d (l:=upP2 p) (m:=upP2 q) sM sM).1 x h
   exact⟨Rat.le_trans e this.1,Rat.le_trans this.2.1 f⟩
  ·have:=(zdP hp hq ho c d (l:=lowP2 p) (m:=lowP2 q) sM sM).1 x h
   exact⟨Rat.le_trans e this.1,Rat.le_trans this.2.1 f⟩
end
theorem zmZ {p q:Pl} (hp:placedOk p=true) (hq:placedOk q=true) (h5:relP p q=5) {l:List Rat} (hl:∀x,x∈l ↔ x∈insN p q ((stopsR (insS p q)).length-1)) {x:Rat} (hx:x=(bestR (fun x=>botI p q x-topI p q x) l).1) :
  (((insS p q).lo:Int):Rat)≤x∧x≤(((insS p q).hi:Int):Rat)∧(insS p q).lo<(insS p q).hi∧botI p q x<topI p q x:=by
 obtain⟨k,t,k1,k2,t0,t1,y1,y2,y3,y4⟩:=zm3 hp hq h5;have ho:(insS p q).lo<(insS p q).hi:=by unfold insS;dsimp only;omega
 have e1:((k+1:Int):Rat)=(k:Rat)+1:=by rw [Rat.intCast_add];rfl
 have l0:(((insS p q).lo:Int):Rat)≤(k:Rat)+t:=by
  have:(((insS p q).lo:Int):Rat)≤(k:Rat):=Rat.intCast_le_intCast.2 (by unfold insS;dsimp only;omega)
  grind
 have l1:(k:Rat)+t≤(((insS p q).hi:Int):Rat):=by
  have:((k+1:Int):Rat)≤(((insS p q).hi:Int):Rat):=Rat.intCast_le_intCast.2 (by unfold insS;dsimp only;omega)
  grind
 obtain⟨i,a,b,ha,z,x0,x1⟩:=zkt ho l0 l1;obtain⟨aa,hs⟩:=zjA hp hq ho ha z;have w:(a:Rat)<(b:Rat):=Rat.intCast_lt_intCast.2 aa
 have hn:i+1<(stopsR (insS p q)).length:=by
  have:=(lS.1 z).1;rw [zcp]at this;exact this
 have d:∀m,m=lowP2 p∨m=upP2 p∨m=lowP2 q∨m=upP2 q→StrR (atR m) (a:Rat) (b:Rat):=fun m v=>StrR.of w fun x x0 x1=>hs m v x0 x1
 have pa:(a:Rat)∈l:=(hl _).2 (zcM (List.mem_map_of_mem (lM ha)) _);have pb:(b:Rat)∈l:=(hl _).2 (zcM (List.mem_map_of_mem (lM z)) _)
 have cr:∀{m o:List (Int×Int)},(m=lowP2 p∨m=upP2 p∨m=lowP2 q∨m=upP2 q)→(o=lowP2 p∨o=upP2 p∨o=lowP2 q∨o=upP2 q)→(∀c∈crossL (dif m o) (a:Rat) (b:Rat),c∈insC p q (a:Rat) (b:Rat)) →
   ((atR m (a:Rat)≤atR o (a:Rat)∧atR m (b:Rat)≤atR o (b:Rat))∨(atR o (a:Rat)≤atR m (a:Rat)∧atR o (b:Rat)≤atR m (b:Rat)))∨∃c,c∈l∧(a:Rat)≤c∧c≤(b:Rat)∧atR m c=atR o c:=by
  intro m o v ac K;obtain⟨d1,d2⟩:=zdP hp hq ho ha z v ac
  cases h9:crossL (dif m o) (a:Rat) (b:Rat)with
  | nil=>exact .inl (d2 h9)
  | cons c r =>
   have T:c∈crossL (dif m o) (a:Rat) (b:Rat):=by rw [h9];simp
   have Q:=K c T;rw [←zar ha,←zar z]at Q;obtain⟨g1,g2,g3⟩:=d1 c T;exact .inr ⟨c,(hl _).2 (zid oM Q),g1,g2,g3⟩
 have hT:=cr (m:=upP2 p) (o:=upP2 q) sM sM (fun c K=>List.mem_append.2 (.inl K));have hL:=cr (m:=lowP2 p) (o:=lowP2 q) sM sM (fun c K=>List.mem_append.2 (.inr K));obtain⟨y,py,_,_,z1,z2,z3,z4⟩:=peak (P:=fun c=>c∈l) pa pb x0 x1 (d (upP2 p) sM) (d (upP2 q) sM) (d (lowP2 p) sM) (d (lowP2 q) sM) hT hL y1 y3 y4 y2;have ab:l≠[]:=List.ne_nil_of_mem py;obtain⟨v,he⟩:=zav (fun x=>botI p q x-topI p q x) ab;have D:=zbJ (fun x=>botI p q x-topI p q x) y py;rw [he,←hx]at D;rw [←hx]at v;have W:=znN hp hq ho (n:=(stopsR (insS p q)).length-1) oM ((hl x).1 v);refine⟨W.1,W.2,ho,?_⟩
 have ty:botI p q y<topI p q y:=by
  unfold botI topI
  rcases(zgK (atR (lowP2 p) y) (atR (lowP2 q) y)).2.2 with e|e<;>rcases(zgL (atR (upP2 p) y) (atR (upP2 q) y)).2.2 with f|f
  ·rw [e,f];exact z1
  ·rw [e,f];exact z2
  ·rw [e,f];exact z3
  ·rw [e,f];exact z4
 obtain⟨bx,g⟩:=gX (botI p q x);obtain⟨tx,s⟩:=gX (topI p q x);obtain⟨ad,j⟩:∃b,botI p q y=b:=⟨_,rfl⟩;obtain⟨ae,u⟩:∃b,topI p q y=b:=⟨_,rfl⟩;rw [g,s,j,u]at D;rw [j,u]at ty;rw [g,s];clear g s j u
 grind
theorem zm0 {p q:Pl} {x z:Rat} (h:botI p q x<topI p q x) (d:z=(topI p q x+botI p q x) / 2) :
  atR (lowP2 p) x<z∧z<atR (upP2 p) x∧atR (lowP2 q) x<z∧z<atR (upP2 q) x:=by
 have c:z*2=topI p q x+botI p q x:=by rw [d];exact Rat.div_mul_cancel dM
 have a:=zgK (atR (lowP2 p) x) (atR (lowP2 q) x);have b:=zgL (atR (upP2 p) x) (atR (upP2 q) x);unfold botI topI at h c;refine⟨?_,?_,?_,?_⟩<;>grind
theorem zlA {p q:Pl} (hp:placedOk p=true) (hq:placedOk q=true) (e:relP p q≠5) (ho:(insS p q).lo<(insS p q).hi) {x:Rat} (P:(((insS p q).lo:Int):Rat)≤x) (Q:x≤(((insS p q).hi:Int):Rat)) :
  topI p q x≤botI p q x:=by
 obtain⟨a1,a2,a3,v,w⟩:=zag hp;obtain⟨b1,b2,b3,y,z⟩:=zag hq;have u:=ho;unfold insS at u;dsimp only at u
 have n:∀{L U:List (Int×Int)},Rise L→Rise U→L≠[]→U≠[]→(btw L U).lo=(insS p q).lo→(btw L U).hi=(insS p q).hi→freeB L U=true→atR U x≤atR L x:=by
  intro L U rL rU nL nU l m c;have d:(btw L U).lo<(btw L U).hi:=by rw [l,m];exact ho
  unfold freeB at c;rw [if_pos d,decide_eq_true_eq]at c;have r:=zgV c;obtain⟨i,a,b,f,k,T,W⟩:=zkt d (x:=x) (by rw [l];exact P) (by rw [m];exact Q);obtain⟨j,_⟩:=zcb d f k;have s:(a:Rat)<(b:Rat):=Rat.intCast_lt_intCast.2 j;have g:=zbY rL rU nL nU d f k T W;have D:=Rat.le_trans r (zbJ (gapR (btw L U)) _ (show (a:Rat)∈stopsR (btw L U)from List.mem_map_of_mem (lM f)));have K:=Rat.le_trans r (zbJ (gapR (btw L U)) _ (show (b:Rat)∈stopsR (btw L U)from List.mem_map_of_mem (lM k)));have m1:=Rat.mul_nonneg (show 0≤(b:Rat)-x by grind) D;have m2:=Rat.mul_nonneg (show 0≤x-(a:Rat) by grind) K
  have o:0≤gapR (btw L U) x:=by
   refine Rat.not_lt.1 fun t=>?_
   have:=Rat.mul_pos (show 0<(b:Rat)-(a:Rat) by grind) (show 0 < -gapR (btw L U) x by grind)
   grind
  unfold gapR btw at o;dsimp only at o
  grind
 have a:=zgK (atR (lowP2 p) x) (atR (lowP2 q) x);have b:=zgL (atR (upP2 p) x) (atR (upP2 q) x)
 have c:freeB (lowP2 p) (upP2 q)=true∨freeB (lowP2 q) (upP2 p)=true:=by
  unfold relP at e
  cases f1:freeB (lowP2 p) (upP2 q)with
  | true=>exact .inl rfl
  | false =>
   cases f2:freeB (lowP2 q) (upP2 p)with
   | true=>exact .inr rfl
   | false =>
    rw [f1,f2]at e;rw [if_neg oM,if_neg oM]at e;exact absurd rfl e
 unfold topI botI
 rcases c with c|c
 ·have:=n (zam hp).1 (zax hq).1 v z (by unfold btw insS;dsimp only;omega) (by unfold btw insS;dsimp only;omega) c
  grind
 ·have:=n (zam hq).1 (zax hp).1 y w (by unfold btw insS;dsimp only;omega) (by unfold btw insS;dsimp only;omega) c
  grind
end
end Go.Proofs.YtodpfeaihohpjaaGreatDoor.Cop
