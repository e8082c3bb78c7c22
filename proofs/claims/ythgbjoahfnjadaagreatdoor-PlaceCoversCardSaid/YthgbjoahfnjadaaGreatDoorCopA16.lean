import Derived.Test.YthgbjoahfnjadaaGreatDoorCopA15
import Derived.Test.YthgbjoahfnjadaaGreatDoorCopA14
set_option maxRecDepth 1000000
set_option maxHeartbeats 16000000
set_option linter.all false
open Go.Value renaming slice->O,int->Y,bool->X
open Go.IntKind renaming i64->Z
open Go renaming World->V,Value->I
open Option renaming some->J,none->M
namespace Go.Proofs.YthgbjoahfnjadaaGreatDoor.Cop
section
open Go.RowKit Go.Shelf Go.Sort
attribute [local go_sem] Oper.semAt_some
def Ga.pr{w:V}{base:Nat}{v:I}{b:LP}(h:Ga 29 2 w base v (b.map pc)):Pd w v b:=
 ⟨_,Ga.sl h sM (fun i c x hc d=>by
  rw[lP,d]at hc;cases hc;rfl)⟩
end
section
open Go.RowKit Go.Shelf
attribute [local go_sem] Oper.semAt_some
def Wv(w:V)(r s:I)(ps:List Pl)(a:Nat)(p:Pl)(b f:Int)(j:LP)(hg:∃a n c,r=O a n c)(x:Ub w s ps)(u:ps[a]?=J p)(d:b<0\/∃(y:Nat)(q:Pl),b=(y:Int)/\ps[y]?=J q/\jd p q=true/\(a:Int)≠b)(k:Fb (za p))(t:Fb j)(m:jh j)(i:∀W,oa w W->Calls Tryz.prog 101 #[.agg #[r,s],Y Z b] W fun e z=>∃v,e=.returned v/\Aa z v j/\oa W z)(hp:f=0):Calls Tryz.prog 100 #[.agg #[r,s],Y Z a,Y Z b,Y Z f] w (Df w (gh p j b f)):=by
 by_cases l:(Ic (za p) j).lo<(Ic (za p) j).hi
 ·cases hro:Jc (Ic (za p) j) f with
  | none=>exact fG w r s ps a p b f j hg x u d k t m i hp l hro
  | some K=>exact fH w r s ps a p b f j hg x u d k t m i hp l K hro
 ·exact ZF w r s ps a p b f j hg x u d k t m i hp l
end
section
open Go.RowKit Go.Shelf Go.Sort Go.Lib
def pj.keep{w w':V}{c:List I}{b:Be}(h:pj w c b)(k:Fa 2 w w'):pj w' c b:=by obtain⟨f,t,d,e,i⟩:=h;exact⟨f,t,d,e.keep k,i.keep k⟩
def qd(w:V)(base:Nat)(v:I)(d:List Be):Prop:=∃cs,Ga 92 17 w base v cs/\cs.length=d.length/\∀(i:Nat) c b,cs[i]?=J c->d[i]?=J b->pj w c b
def qd.ext{w w':V}{base:Nat}{v:I}{d:List Be}(h:qd w base v d)(k:oa w w'):qd w' base v d:=by obtain⟨e,f,j,l⟩:=h;exact⟨e,f.ext k,j,fun i c b hc m=>(l i c b hc m).ext k⟩
def qd.nil(w:V)(base:Nat):qd w base (O M 0 0) []:=⟨[],Ga.nil _ _ _ _,rfl,fun i c b hc=>by simp at hc⟩
def qd.j{w:V}{base:Nat}{v:I}{b:List Be}(h:qd w base v b):∃a n c,v=O a n c:=by obtain⟨e,d,_⟩:=h;exact d.j
def qd.app{wr j:V}{base:Nat}{m:I}{f:List Be}{cs:List (List I)}{d:List I}{b:Be}(h:Ga 92 17 j base m (cs++[d]))(k:cs.length=f.length)(l:∀(i:Nat) c b,cs[i]?=J c->f[i]?=J b->pj wr c b)(s:Fa 2 wr j)(q:pj j d b):qd j base m (f++[b]):=by
 refine⟨cs++[d],h,by simp[k],fun i c n hc e=>?_⟩;by_cases r:i<cs.length
 ·rw[List.getElem?_append_left r]at hc;rw[List.getElem?_append_left oM]at e;exact(l i c n hc e).keep s
 ·rw[List.getElem?_append_right oM]at hc e;have t:=(lS.1 hc).1;simp at t;have:i-cs.length=0:=oM;rw[this]at hc;rw[show i-f.length=0 by omega]at e;simp at hc e;subst hc e;exact q
def KE:(Tryz.prog.info? 92).map (fun i=>(i.zero,i.size,i.bytes))=J (J (.agg Ej),17,264):=kM
def oh(g:LP)(ps:List Pl)(a:Nat)(p:Pl)(c b:Int):Option Be:=
 if (a:Int)=b then M else if b<0 then gh p g b c else match ps[b.toNat]? with|none=>M|some q=>if jd p q=true then gh p (Ra q) b c else M
def Tg(g:LP)(ps:List Pl)(a:Nat)(p:Pl)(b:Int)(n:Nat):List Be:=(List.range n).filterMap fun k:Nat=>oh g ps a p b ((k:Int)-1)
def xJ(g:LP)(ps:List Pl)(a:Nat)(p:Pl)(c:Int)(n:Nat):Tg g ps a p c (n+1)=Tg g ps a p c n++(match oh g ps a p c ((n:Int)-1)with|none=>[]|some b=>[b]):=by
 unfold Tg;rw[List.range_succ,List.filterMap_append]
 congr 1
 cases h:oh g ps a p c ((n:Int)-1)<;>simp[h]
def zI(g:LP)(ps:List Pl)(a:Nat)(p:Pl)(b:Int)(n:Nat):(Tg g ps a p b n).length<=n:=by unfold Tg;have:=List.length_filterMap_le (fun k:Nat=>oh g ps a p b ((k:Int)-1)) (List.range n);simpa using this
def jE(w:V)(d f:I)(g:LP)(ps:List Pl)(a:Nat)(p:Pl)(b c:Int)(hg:Aa w d g)(j:Ub w f ps)(l:ps[a]?=J p)(m:ub g=true)(hok:∀q∈ps,Ea q=true)(x:-1<=b)(y:b<ps.length)(hp:c=0):Calls Tryz.prog 100 #[.agg #[d,f],Y Z a,Y Z b,Y Z c] w (Df w (oh g ps a p c b)):=by
 have n:=hok p (lM l);unfold oh;by_cases k:(a:Int)=b
 ·rw[if_pos k,<-k];exact gH w d f ps a p c (Ia hg) j l
 rw[if_neg k];by_cases t:b<0
 ·rw[if_pos t];exact Wv w d f ps a p b c g (Ia hg) j l (.inl t) (rj n).1 (pp m) (KI m) (fun W u=>(CJ W d f b t (Ia hg) (Ia j)).mono (by rintro e z ⟨rfl,v⟩;exact⟨_,rfl,hg.i (u.trans v),v⟩)) hp
 rw[if_neg t];obtain⟨q,r⟩:∃q,ps[b.toNat]?=J q:=⟨ps[b.toNat]' oM,gE _⟩;have s:=lM r;simp only[r];have i:b=((b.toNat:Nat):Int):=oM;cases hmt:jd p q with
 |false=>
  rw[if_neg sM];exact AI w d f ps a p b c (Ia hg) j l b.toNat i q r hmt k
 |true=>
 rw[if_pos rfl];refine Wv w d f ps a p b c (Ra q) (Ia hg) j l (.inr ⟨b.toNat,q,i,r,hmt,k⟩) (rj n).1 (rj (hok q s)).2 (QE (hok q s)) (fun W u=>?_) hp;have:=xG W d f ps b.toNat q (Ia hg) (j.i u) r;rw[<-i]at this;exact this
def qd.lt{w:V}{base:Nat}{v:I}{b:List Be}(h:qd w base v b):∀j,v.ownBlock=J j->base<=j/\j<w.heap.size:=by obtain⟨d,c,_⟩:=h;exact c.lt
def qd.mono{w:V}{base b':Nat}{v:I}{b:List Be}(h:qd w base v b)(k:b'<=base):qd w b' v b:=by obtain⟨c,d,e,f⟩:=h;exact⟨c,d.mono k,e,f⟩
def Sk(w:V)(b:List Be)(e:Ending)(w':V):Prop:=∃v,e=.returned (.tuple #[v,Y Z 0])/\qd w' w.heap.size v b/\oa w w'
def IC(w:V)(b:Nat)(j k:I)(ps:List Pl)(c:Nat->List Be)(f:Nat)(d e:I)(W:V):Prop:=
 ∃i:Nat,i<=ps.length+1/\e=Y Z ((i:Int)-1)/\f=ps.length+1-i/\oa w W/\b+1<=W.heap.size/\W.heap[b]?=J (.cells #[j,k] 110 (0,0))/\qd W (b+1) d (c i)
def pj.form{w:V}{c:List I}{b:Be}(h:pj w c b):∃a m c1 s a2 m2 c2 b1 n k t b2 n2 k2 a' m' c' s' a2' m2' c2' b' n' k' t' b2' n2' k2',c=[Y Z b.num,O a m c1,X s,O a2 m2 c2,O b1 n k,X t,O b2 n2 k2,O a' m' c',X s',O a2' m2' c2',O b' n' k',X t',O b2' n2' k2',Y Z b.d1.1,Y Z b.d1.2,Y Z b.d2.1,Y Z b.d2.2]:=by
 obtain⟨f,t,rfl,⟨a,m,c,s,a2,m2,c2,b1,n,k,d,b2,n2,k2,j,_,_⟩,a',m',c',s',a2',m2',c2',b',n',k',t',b2',n2',k2',l,_,_⟩:=h;have e:f=[O a m c,X s,O a2 m2 c2,O b1 n k,X d,O b2 n2 k2]:=by simpa using j
 have i:t=[O a' m' c',X s',O a2' m2' c2',O b' n' k',X t',O b2' n2' k2']:=by simpa using l
 subst e i;exact⟨a,m,c,s,a2,m2,c2,b1,n,k,d,b2,n2,k2,a',m',c',s',a2',m2',c2',b',n',k',t',b2',n2',k2',rfl⟩
def Wp{W w':V}{o:Option Be}{e:Ending}(h:Df W o e w'):∃nb a m c1 s a2 m2 c2 b1 n k t b2 n2 k2 a' m' c' s' a2' m2' c2' b' n' k' t' b2' n2' k2' e1 e2 e3 e4 bb,e=.returned (.tuple #[.agg #[Y Z nb,O a m c1,X s,O a2 m2 c2,O b1 n k,X t,O b2 n2 k2,O a' m' c',X s',O a2' m2' c2',O b' n' k',X t',O b2' n2' k2',Y Z e1,Y Z e2,Y Z e3,Y Z e4],X bb])/\(bb=true->∃be,o=J be/\pj w' [Y Z nb,O a m c1,X s,O a2 m2 c2,O b1 n k,X t,O b2 n2 k2,O a' m' c',X s',O a2' m2' c2',O b' n' k',X t',O b2' n2' k2',Y Z e1,Y Z e2,Y Z e3,Y Z e4] be)/\(bb=false->o=M)/\oa W w':=by
 obtain⟨i,⟨d,f⟩|⟨b,c,d,f,j⟩⟩:=h
 ·exact⟨0,M,0,0,false,M,0,0,M,0,0,false,M,0,0,M,0,0,false,M,0,0,M,0,0,false,M,0,0,0,0,0,0,false,f,(fun h=>by cases h),fun _=>d,i⟩
 ·obtain⟨a,m,c1,s,a2,m2,c2,b1,n,k,t,b2,n2,k2,a',m',c',s',a2',m2',c2',b',n',k',t',b2',n2',k2',rfl⟩:=j.form;exact⟨b.num,a,m,c1,s,a2,m2,c2,b1,n,k,t,b2,n2,k2,a',m',c',s',a2',m2',c2',b',n',k',t',b2',n2',k2',b.d1.1,b.d1.2,b.d2.1,b.d2.2,true,f,fun _=>⟨b,d,j⟩,(fun h=>by cases h),i⟩
def ZG{K wr W P:V}{l i:Nat}{vg vs v9:I}{ps:List Pl}{e:Nat->List Be}{T:I}{cs:List (List I)}{d:List I}{R:Be}{A:Array I}(ac:i<ps.length+1)(aa:K.heap.size=l)(hx:oa K wr)(ab:l+1<=wr.heap.size)(hK:wr.heap[l]?=J (.cells #[vg,vs] 110 (0,0)))(z:oa wr W)(hz:l+1<=W.heap.size)(x:Ga 92 17 wr (l+1) T cs)(v:cs.length=(e i).length)(w:∀(j:Nat) c b,cs[j]?=J c->(e i)[j]?=J b->pj wr c b)(q:Ga 92 17 P (l+1) v9 (cs++[d]))(f:(W.alloc (.cells A 92)).grownBy P T.ownBlock)(y:pj W d R)(hs:e (i+1)=e i++[R]):IC K l vg vs ps e (ps.length+1-(i+1)) v9 (Y Z (i:Int)) P:=by
 have m:=z.alloc (.cells A 92);have r:=x.ext m;have s:l+1<=(W.alloc (.cells A 92)).heap.size:=by simp only[wZ];omega
 have n:=Ch (base:=l+1) f s (fun k hk=>(r.lt k hk).1);have t:=r.keepT (T':=2) dM f;have u:=hx.trans m;refine⟨i+1,by omega,by go_num,rfl,u.E n oM,nT s n.size,(n.block _ oM).trans (m.e hK),?_⟩;rw[hs];exact qd.app q v w (m.keep.trans t) ((y.ext ((eR _).alloc _)).keep t)
def yI(w3 w4:V)(r:Nat)(vg vs:I)(ps:List Pl)(a:Nat)(ae:Int)(f:Nat->List Be)(an:Int->Option Be)(Q:Exit->Act->V->Prop)(x0 x3 x4 x5 x6 x7 x9 aW aX ax ay az aA aB aC aD aE aF aG aH aI aY aZ a0 a1 a3 a4 a5 a6 a7 a8 ba bc bd bf bg bh bi bj bk bl bm:I)(aR:∃a n c,vg=O a n c)(R:Ub w3 vs ps)(bM:ps.length<=120)(av:∀n,f (n+1)=f n++(match an ((n:Int)-1)with|none=>[]|some b=>[b]))(aq:∀n,(f n).length<=n)(ap:f 0=[])(hB:∀W,oa w3 W->∀b:Int,-1<=b->b<ps.length->Calls Tryz.prog 100 #[.agg #[vg,vs],Y Z a,Y Z b,Y Z ae] W (Df W (an b)))(am:oa w3 w4)(aJ:r+1<=w4.heap.size)(ao:w3.heap.size=r)(K8:w4.heap[r]?=J (.cells #[vg,vs] 110 (0,0)))(hQ:∀(W:V)(af aV bn bo bp bq br bs bt bu bv bw bx bz bA bB bC bD bE bF bG bH bI bJ bK:I),oa w3 W->qd W (r+1) af (f (ps.length+1))->(∃a n c,af=O a n c)->Q (.exit 0) { tmps:=#[x0,Y Z a,Y Z ae,x3,x4,x5,x6,x7,.pointer (J ⟨r,0,M⟩),x9,af,aV,bn,bo,ax,ay,az,aA,aB,aC,aD,aE,aF,aG,aH,aI,bp,bq,br,bs,bt,bu,bv,bw,bx,bz,bA,bB,bC,bD,bE,bF,bG,bH,bI,bJ,bK],defers:=[] } W) :
  (Code.loop (Yg Tryz.f34 0)).wp Tryz.prog Q { tmps:=#[x0,Y Z a,Y Z ae,x3,x4,x5,x6,x7,.pointer (J ⟨r,0,M⟩),x9,O M 0 0,Y Z (-1),aW,aX,ax,ay,az,aA,aB,aC,aD,aE,aF,aG,aH,aI,aY,aZ,a0,a1,a3,a4,a5,a6,a7,a8,ba,bc,bd,bf,bg,bh,bi,bj,bk,bl,bm],defers:=[] } w4:=by
 obtain⟨ga,gn,gc,rfl⟩:=aR;obtain⟨sa,sn,sc,rfl⟩:=Ia R;have ak:=ia (show sn=ps.length from R.len);have HB:=ia hB;have al:=ia av;have ai:=ia aq;have ah:=ia ap;have aK:=ia ao;have HQ:=ia hQ;clear hB av aq ap ao hQ R;unfold Yg;simp only[Tryz.f34,Xc,List.append_nil,List.nil_append,List.singleton_append,List.getD_cons_zero,List.getD_cons_succ];go_loopg [10,11] (ps.length+1) (IC w3 r (O ga gn gc) (O sa sn sc) ps f)
 case atStart=>exact⟨0,by omega,by go_num,by omega,am,aJ,K8,by rw[ah.o];exact qd.nil _ _⟩
 case round =>
  clear K8 am aJ ah;obtain⟨i,hi,rfl,rfl,hx,aQ,hK,j⟩:=hrel;obtain⟨va,vn,vc,rfl⟩:=j.j;have m0:=ja hK 0 (O ga gn gc);have m1:=ja hK 1 (O sa sn sc);have HK:=ia hK;have Hx:=ia hx;have q:=ia j;clear hK;by_cases aS:i<ps.length+1
  ·have q1:-1<=(i:Int)-1:=oM;have q2:(i:Int)-1<(ps.length:Int):=oM;have q3:(i:Int)-1<(sn:Int):=by have:=ak.o;omega
   have ag:=ia (fun(W:V)(hW:oa wr W)=>HB.o W (hx.trans hW) ((i:Int)-1) q1 q2);clear hx HB q1 q2;have aL:=ia (fun(W:V)(hW:oa wr W)=>(ag.o W hW).mono (fun e w' h=>Wp h));obtain⟨cs,au,K,ar⟩:=j;have aj:=ia au;have aO:=ia ar;have aM:=ia K;have aP:=ia (show cs.length<=121 by rw[K];exact nT (ai.o i) oM);clear ag au K ar ai HQ hi;go_wp2_with(first|(go_at_call 100;refine cM (aL.o _ eA) ?_;rintro e w5 ⟨nb,a,m,c1,s,a2,m2,c2,b1,n,k,t,b2,n2,k2,a',m',c',s',u,ab,x,b',n',k',t',w,ac,aa,e1,e2,e3,e4,bb,rfl,aw,aT,d⟩;(have z5:=d.size))|(at_builtin;refine kj (T:=92) (t:=87) (z:=.agg Ej) (k:=17) (bytes:=264) (base:=r+1) (v:=O va vn vc) (cs:=cs) (m:=1) (c:=1) (ad:=⟨w5.heap.size+1,0,M⟩) KE rfl dM dM Tryz.underlying87 rfl _ _ rfl rfl (aj.o.ext ((d.alloc _).alloc _)) rfl [[Y Z nb,O a m c1,X s,O a2 m2 c2,O b1 n k,X t,O b2 n2 k2,O a' m' c',X s',O u ab x,O b' n' k',X t',O w ac aa,Y Z e1,Y Z e2,Y Z e3,Y Z e4]] rfl sM (by have:=yr (w5.alloc (.cells #[Y Z nb,O a m c1,X s,O a2 m2 c2,O b1 n k,X t,O b2 n2 k2,O a' m' c',X s',O u ab x,O b' n' k',X t',O w ac aa,Y Z e1,Y Z e2,Y Z e3,Y Z e4] 92)) #[Y Z nb,O a m c1,X s,O a2 m2 c2,O b1 n k,X t,O b2 n2 k2,O a' m' c',X s',O u ab x,O b' n' k',X t',O w ac aa,Y Z e1,Y Z e2,Y Z e3,Y Z e4] 92;simpa only[wZ] using this) (by simp[Value.oneCell']) (by have:=aP.o;omega) (by simp only[wZ];omega) ?_;intro v' w9 l P bL;obtain⟨a9,n9,c9,rfl⟩:=l.j))
   ·go_roundg (ps.length+1-(i+1))
    case measure=>omega
    case rel =>
     obtain⟨be,y,aU⟩:=aw (by assumption);exact ZG aS aK.o Hx.o aQ HK.o (d.alloc _) (by simp only[wZ];omega) aj.o aM.o aO.o l P (aU.ext ((eR _).alloc _)) (by rw[al.o,y])
   ·go_roundg (ps.length+1-(i+1))
    case measure=>omega
    case rel =>
     have y:=aT (by assumption);exact⟨i+1,by omega,by go_num,rfl,(Hx.o.trans d).alloc _,by have:=d.size;simp only[wZ];omega,((eR _).alloc _).e (d.e HK.o),by rw[al.o,y,List.append_nil];exact(q.o.ext d).ext ((eR _).alloc _)⟩
  ·obtain rfl:i=ps.length+1:=oM;have q3:¬(((ps.length+1:Nat):Int)-1<(sn:Int)):=by have:=ak.o;omega
   go_wp2;exact HQ.o _ _ _ _ _ _ _ _ _ _ _ _ _ _ _ _ _ _ _ _ _ _ _ _ _ _ Hx.o q.o ⟨_,_,_,rfl⟩
def fE(w:V)(vg vp:I)(g:LP)(ps:List Pl)(a:Nat)(p:Pl)(c:Int)(hg:Aa w vg g)(hp:td w vp ps)(ad:Gw w)(h0:pb g ps=0)(ha:ps[a]?=J p)(ae:c=0)(ac:ub g=true)(hok:∀q∈ps,Ea q=true)(ao:ps.length<=120):Calls Tryz.prog 34 #[.agg #[vg,vp],Y Z a,Y Z c] w (Sk w (Tg g ps a p c (ps.length+1))):=by have HL:=ia (fun(W:V)(m:oa w W)=>(Ku W vg vp g ps (hg.i m) (hp.i m) (ad.ext m)).mono (fun e w' h=>h.resolve_left (fun h9=>h9.1 h0)));have HB:=ia (fun(W:V)(m:oa w W)(vs:I)(hs:Ub W vs ps)(b:Int)(v:-1<=b)(x:b<ps.length)=>jE W vg vs g ps a p b c (hg.i m) hs ha ac hok v x ae);obtain⟨ga,gn,gc,rfl⟩:=Ia hg;obtain⟨pa,pn,aw,rfl⟩:=Ia hp;have af:=hp.len;have Hn:=ia af;have Hw:=ia (fun(l:Nat)(h:ps.length=l)=>(show Yd l a c=false by unfold Yd;have:=(lS.1 ha).1;simp;omega));clear af;have hi:=(lS.1 ha).1;obtain⟨u,d⟩:=gX (Tg g ps a p c);have s:=ia (d▸xJ g ps a p c);have T:=ia (d▸zI g ps a p c);have P:=ia (show u 0=[] by rw[<-d];rfl);rw[d];obtain⟨aj,n⟩:=gX (oh g ps a p c);rw[n]at HB s;obtain⟨R,hR⟩:=gX (Sk w (u (ps.length+1)));rw[hR];have HR:=ia hR;clear hg hp ad h0 ha ac hok hR d n ae;go_in;go_wp2_with(first|(go_at_call 43;refine cM (HL.o _ eA) ?_;rintro e z ⟨-,vs,rfl,j,k⟩;obtain⟨sa,l,sc,rfl⟩:=Ia j;obtain⟨ak,am⟩:=k.cells;(have z3:=k.size);(simp only[wZ]at z3);(have ap:Yd l a c=false:=Hw.o l j.len.symm);(have t:=ia j);clear j;(have ar:w.heap.size<z.heap.size:=oM))|(go_at_call 99;(with_reducible refine(mG _ (O ga gn gc) sa l sc a c ⟨_,_,_,rfl⟩).mono ?_);rw[ap];rintro e w4 ⟨rfl,f⟩;obtain⟨al,an⟩:=f.cells;(have z4:=f.size);(simp only[wZ]at z4)));have X3:oa w z:=((eR w).alloc _).trans k;have au:=ia (show l=ps.length from t.o.len);have K8:=f.e (aN z (.cells #[O ga gn gc,O sa l sc] 110));have ab:oa z w4:=((eR z).alloc _).trans f;obtain⟨b8,i⟩:=gX z.heap.size;have K:=ia X3;have ah:=ia i;have av:w.heap.size<=b8:=oM;have aq:b8+1<=w4.heap.size:=oM;rw[i]at K8;simp only[i];clear ak am al an k f X3 i z3 z4 ar;refine yI z w4 b8 (O ga gn gc) (O sa l sc) ps a c u aj _ _ _ _ _ _ _ _ _ _ _ _ _ _ _ _ _ _ _ _ _ _ _ _ _ _ _ _ _ _ _ _ _ _ _ _ _ _ _ _ _ _ _ ⟨_,_,_,rfl⟩ t.o ao s.o T.o P.o (fun W m b v x=>HB.o W (K.o.trans m) _ (t.o.i m) b v x) ab aq ah.o K8 ?_;intro W ax ay az aA aB aC aD aE aF aG aH aI aJ aK aL aM aO aP aQ aR aS aT aU aV aW ag r y;obtain⟨va,vn,vc,rfl⟩:=y;have ai:=ia ag;have aa:=ia r;clear ag r K8 ab HL HB s T P;go_wp2;rw[<-HR.o];exact⟨_,rfl,aa.o.mono oM,K.o.trans ai.o⟩
section
variable {g:LP} {ps:List Pl} (hg:Bb g) (ng:g≠[]) (hok:∀p∈ps,Ea p=true) {a:Nat} {p:Pl} (hp:ps[a]?=J p)
include hg ng hok hp
end
end
section
open Go.RowKit Go.Shelf Go.Sort Go.Lib Go.Maps
def Bb.eq{l m:LP}(c:Bb l)(d:Bb m)(h:∀q,q∈l ↔ q∈m):l=m:=by have f:∀{l:LP},Bb l->l.Nodup:=fun h=>List.Pairwise.imp (fun h e=>by subst e;omega) h;exact List.Perm.eq_of_pairwise (le:=fun a b:Int×Int=>a.1<b.1) (fun a b _ _ i j=>by omega) c d ((List.perm_ext_iff_of_nodup (f c) (f d)).2 h)
end
section
open Go.RowKit Go.Shelf Go.Sort
def kx(k:Int)(e:Md)(h:e.1.1<e.2.1):Ug (k:Rat) e*((e.2.1-e.1.1:Int):Rat)=(((e.2.1-e.1.1)*e.1.2+(k-e.1.1)*(e.2.2-e.1.2):Int):Rat):=by
 have c:((e.2.1-e.1.1:Int):Rat)≠0:=by
  intro h0;have:(e.2.1-e.1.1:Int)=0:=by exact_mod_cast h0
  omega
 unfold Ug;generalize hq:(((k:Rat)-((e.1.1:Int):Rat))*((e.2.2-e.1.2:Int):Rat))/((e.2.1-e.1.1:Int):Rat)=q;have b:q*((e.2.1-e.1.1:Int):Rat)=((k:Rat)-((e.1.1:Int):Rat))*((e.2.2-e.1.2:Int):Rat):=by rw[<-hq,Rat.div_mul_cancel c]
 simp only[Rat.intCast_add,Rat.intCast_mul,Rat.intCast_sub]at b ⊢;grind
def sG{p:Pl}(h:Ea p=true){k:Int}(f:Ka (za p)<=k)(i:k<Ma (za p)):∃a b c d,si (Ba p) a b/\qk (Ba p) c d/\a.1<=k/\k<b.1/\d.1<=k/\k<c.1/\a∈za p/\(a,b)∈yb (za p)/\(d,c)∈yb (Ra p):=by obtain⟨w,x,_,t,u⟩:=xk h;obtain⟨v,_,r⟩:=lk h;obtain⟨_,_,s⟩:=vk h;obtain⟨⟨a,b⟩,e,l,m,y⟩:=Vq t f i;obtain⟨⟨d,c⟩,j,n,q,z⟩:=Vq u (by rw[w];exact f) (by rw[x];exact i);exact⟨a,b,c,d,r _ e,s _ j,l,m,n,q,(v.between e).1,e,j⟩
def ot{p:Pl}(h:Ea p=true){k:Int}(h1:Ka (za p)<=k)(h2:k<=Ma (za p)):Sb (za p) (k:Rat)<=Sb (Ra p) (k:Rat):=by
 have hc:=Zo h;obtain⟨r1,_,_⟩:=lk h;obtain⟨r2,_,_⟩:=vk h;obtain⟨_,_,s3,_,_⟩:=xk h;obtain⟨f,i,j,P,R⟩:∃f,Ka (za p)<=f/\f<Ma (za p)/\f<=k/\k<=f+1:=by
  by_cases h9:k=Ma (za p)
  ·exact⟨k-1,by omega,by omega,by omega,by omega⟩
  ·exact⟨k,by omega,by omega,by omega,by omega⟩
 obtain⟨a,b,c,d,⟨t,x⟩,⟨u,y⟩,a1,a2,b1,b2,_,z,K⟩:=sG h i j;have v:=hc.left0 t u.mem.1;have w:=hc.left0 t u.mem.2;have T:Sb (za p) (k:Rat)=Ug (k:Rat) (a,b):=Yk r1 z (Rat.intCast_le_intCast.2 dO) (Rat.intCast_le_intCast.2 dO);have W:Sb (Ra p) (k:Rat)=Ug (k:Rat) (d,c):=Yk r2 K (Rat.intCast_le_intCast.2 dO) (Rat.intCast_le_intCast.2 dO);rw[T,W];have p1:0<=(k-d.1)*Ce a b c:=Int.mul_nonneg oM v;have p2:0<=(c.1-k)*Ce a b d:=Int.mul_nonneg oM w;refine Rat.not_lt.1 fun l=>?_;have r:=kx k (a,b) dO;have s:=kx k (d,c) dO;dsimp only at r s;have e:((c.1-d.1)*d.2+(k-d.1)*(c.2-d.2))*(b.1-a.1)-((b.1-a.1)*a.2+(k-a.1)*(b.2-a.2))*(c.1-d.1)=(k-d.1)*Ce a b c+(c.1-k)*Ce a b d:=by
  unfold Ce;grind
 have n:(0:Rat)<((b.1-a.1:Int):Rat):=by exact_mod_cast (show 0<b.1-a.1 by omega)
 have q:(0:Rat)<((c.1-d.1:Int):Rat):=by exact_mod_cast (show 0<c.1-d.1 by omega)
 have hm:=Rat.mul_lt_mul_of_pos_right (Rat.mul_lt_mul_of_pos_right l n) q;have m:Ug (k:Rat) (d,c)*((c.1-d.1:Int):Rat)*((b.1-a.1:Int):Rat)<Ug (k:Rat) (a,b)*((b.1-a.1:Int):Rat)*((c.1-d.1:Int):Rat):=by grind
 rw[r,s,<-Rat.intCast_mul,<-Rat.intCast_mul,Rat.intCast_lt_intCast]at m;omega
def Sh:(0:Rat)<1/2:=by decide +kernel
def Gf{α:Type}(f:α->Rat):List α->Rat
 | []=>0
 | x::xs=>xs.foldl (fun o y=>if Pb (f y) o<0 then f y else o) (f x)
def qu{α:Type}(f:α->Rat):∀{l:List α},l≠[]->(∃x∈l,Gf f l=f x)/\∀x∈l,Gf f l<=f x
 | [],h=>absurd rfl h
 | x::xs,_=>by
  have key:∀(e:List α)(o:Rat),(e.foldl (fun o y=>if Pb (f y) o<0 then f y else o) o=o\/∃y∈e,e.foldl (fun o y=>if Pb (f y) o<0 then f y else o) o=f y)/\e.foldl (fun o y=>if Pb (f y) o<0 then f y else o) o<=o/\∀y∈e,e.foldl (fun o y=>if Pb (f y) o<0 then f y else o) o<=f y:=by
   intro e;induction e with
   | nil=>intro o;exact⟨.inl rfl,Rat.le_refl,fun y m=>by cases m⟩
   | cons y e k =>
    intro o;rw[List.foldl_cons];by_cases c:Pb (f y) o<0
    ·rw[if_pos c];have hc:=(xl _ _).1 c;obtain⟨b,i,j⟩:=k (f y);refine⟨.inr ?_,Rat.le_trans i (Rat.le_of_lt hc),fun z d=>?_⟩
     ·rcases b with b|⟨z,d,b⟩
      ·exact⟨y,by simp,b⟩
      ·exact⟨z,mC _ d,b⟩
     ·rcases List.mem_cons.1 d with rfl|d
      ·exact i
      ·exact j z d
    ·rw[if_neg c];have hc:o<=f y:=Rat.not_lt.1 fun h=>c ((xl _ _).2 h);obtain⟨b,i,j⟩:=k o;refine⟨?_,i,fun z d=>?_⟩
     ·rcases b with b|⟨z,d,b⟩
      ·exact .inl b
      ·exact .inr ⟨z,mC _ d,b⟩
     ·rcases List.mem_cons.1 d with rfl|d
      ·exact Rat.le_trans i hc
      ·exact j z d
  obtain⟨b,i,j⟩:=key xs (f x);refine⟨?_,fun z d=>?_⟩
  ·rcases b with b|⟨z,d,b⟩
   ·exact⟨x,by simp,b⟩
   ·exact⟨z,mC _ d,b⟩
  ·rcases List.mem_cons.1 d with rfl|d
   ·exact i
   ·exact j z d
def jf(l t:LP):Rat:=(Na (Ic l t)).2
def Cd(g:LP)(ps:List Pl)(p:Pl):List LP:=g::(ps.filter fun o=>jd p o&&Ee p o==3).map Ra
def Bf(g:LP)(ps:List Pl)(p:Pl):Rat:=Gf (jf (za p)) (Cd g ps p)
def Qx{l t:LP}(h:(Ic l t).lo<(Ic l t).hi):Fd l t=true ↔ 0<=jf l t:=by unfold Fd jf;rw[if_pos h,decide_eq_true_eq];exact⟨Vw,fun h=>Int.sign_nonneg_iff.2 (Rat.num_nonneg.2 h)⟩
section
variable {p o:Pl} (hp:Ea p=true) (ho:Ea o=true)
include hp ho
theorem AF(c:¬Ma (za p)<=Ka (za o))(d:¬Ma (za o)<=Ka (za p)):(Ic (za p) (Ra o)).lo<(Ic (za p) (Ra o)).hi:=by have a:=xk hp;have b:=xk ho;unfold Ic;dsimp only;omega
theorem Ez(h:Ee p o=3):(Ic (za p) (Ra o)).lo<(Ic (za p) (Ra o)).hi/\0<=jf (za p) (Ra o):=by
 unfold Ee at h;split at h
 ·omega
 ·rename_i h1;split at h
  ·omega
  ·rename_i h2;have b:=AF hp ho h1 h2;split at h
   ·rename_i h3;exact⟨b,(Qx b).1 h3⟩
   ·split at h<;>omega
end
def Cf(g:LP)(ps:List Pl)(p:Pl):Int:=(Bf g ps p).floor
set_option linter.unusedSectionVars false
section
variable {g:LP} {ps:List Pl} {p:Pl} (h0:pb g ps=0) (hp:Ea p=true) (hh:fe g p=true) (hc:kd g ps p=true)
include h0 hp hh hc
theorem IB:(Ic (za p) g).lo<(Ic (za p) g).hi:=by have a:=xk hp;unfold fe at hh;simp only[Bool.and_eq_true,decide_eq_true_eq]at hh;unfold Ic;dsimp only;omega
theorem Rz:∀t∈Cd g ps p,0<=jf (za p) t:=by
 intro t c;unfold Cd at c;rcases List.mem_cons.1 c with rfl|c
 ·refine(Qx (IB h0 hp hh hc)).1 ?_;unfold kd at hc;rw[Bool.and_eq_true]at hc;exact hc.1
 ·obtain⟨o,ho,rfl⟩:=List.mem_map.1 c;obtain⟨d,b⟩:=List.mem_filter.1 ho;rw[Bool.and_eq_true,beq_iff_eq]at b;exact(Ez hp ((Ui h0).1 o d) b.2).2
theorem TD:0<=Cf g ps p:=by
 unfold Cf;rw[Rat.le_floor_iff];obtain⟨⟨t,b,e⟩,_⟩:=qu (jf (za p)) (l:=Cd g ps p) (by unfold Cd;simp);unfold Bf;rw[e,Rat.intCast_zero];exact Rz h0 hp hh hc t b
