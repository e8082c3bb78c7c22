/- Part 36. -/
import Derived.Test.YtjnjpagegkcgfaaGreatDoorCosA30
import Derived.Test.YtjnjpagegkcgfaaGreatDoorCosA31
import Derived.Test.YtjnjpagegkcgfaaGreatDoorCosA32
import Derived.Test.YtjnjpagegkcgfaaGreatDoorCosA29
import Derived.Test.YtjnjpagegkcgfaaGreatDoorCosA33
import Derived.Test.YtjnjpagegkcgfaaGreatDoorCosA26
set_option maxRecDepth 1000000
set_option maxHeartbeats 16000000
set_option linter.unusedSimpArgs false
set_option linter.unusedVariables false
open Go.Value renaming slice->O,int->Y,bool->X
open Go.IntKind renaming i64->Z
open Go renaming World->V,Value->I
open Option renaming some->J,none->M
namespace Go.Proofs.YtjnjpagegkcgfaaGreatDoor.Cop
section
open Go.RowKit Go.Shelf
attribute [local go_sem] Oper.semAt_some
theorem zl6(w:V)(o r:I)(ps:List Pl)(a:Nat)(p:Pl)(b f:Int)(j:LP)(hg:∃a n c,o=O a n c)(u:IsLas w r ps)(t:ps[a]?=J p)(d:b<0\/∃(x:Nat)(q:Pl),b=(x:Int)/\ps[x]?=J q/\meetB p q=true/\(a:Int)≠b)(k:LnOk (lowP2 p))(s:LnOk j)(m:LnUp j)
  (i:∀W,Ext w W->Calls Tryz.prog 76 #[.agg #[o,r],Y Z b] W fun e y=>∃v,e = .returned v/\IsPts y v j/\Ext W y)(hp:Bd 104000 f) :
  Calls Tryz.prog 72 #[.agg #[o,r],Y Z a,Y Z b,Y Z f] w (RetBe w (bedO p j b f)):=by
 by_cases l:(btw (lowP2 p) j).lo<(btw (lowP2 p) j).hi
 ·cases hro:reachP (btw (lowP2 p) j) f with
  | none=>exact zkN w o r ps a p b f j hg u t d k s m i hp l hro
  | some z=>exact zkQ w o r ps a p b f j hg u t d k s m i hp l z hro
 ·exact zkO w o r ps a p b f j hg u t d k s m i hp l
end
section
open Go.RowKit Go.Shelf Go.Sort Go.Lib
theorem PBe.keep{w w':V}{c:List I}{b:Be}(h:PBe w c b)(k:KeepT 2 w w'):PBe w' c b:=by
 obtain⟨f,t,d,e,i⟩:=h;exact⟨f,t,d,e.keep k,i.keep k⟩
def OwnBe(w:V)(base:Nat)(v:I)(d:List Be):Prop:=∃cs,OwnC 79 17 w base v cs/\cs.length=d.length/\∀(i:Nat) c b,cs[i]?=J c->d[i]?=J b->PBe w c b
theorem OwnBe.ext{w w':V}{base:Nat}{v:I}{d:List Be}(h:OwnBe w base v d)(k:Ext w w'):OwnBe w' base v d:=by
 obtain⟨e,f,j,l⟩:=h;exact⟨e,f.ext k,j,fun i c b n m=>(l i c b n m).ext k⟩
theorem OwnBe.nil(w:V)(base:Nat):OwnBe w base (O M 0 0) []:=⟨[],OwnC.nil _ _ _ _,rfl,fun i c b d=>by simp at d⟩
theorem OwnBe.form3{w:V}{base:Nat}{v:I}{b:List Be}(h:OwnBe w base v b):∃a n c,v=O a n c:=by obtain⟨e,d,_⟩:=h;exact d.form3
theorem OwnBe.app{wr k:V}{base:Nat}{n:I}{j:List Be}{cs:List (List I)}{d:List I}{b:Be}(h:OwnC 79 17 k base n (cs++[d]))(l:cs.length=j.length)
  (m:∀(i:Nat) c b,cs[i]?=J c->j[i]?=J b->PBe wr c b)(s:KeepT 2 wr k)(q:PBe k d b):OwnBe k base n (j++[b]):=by
 refine⟨cs++[d],h,by simp[l],fun i c o e f=>?_⟩
 by_cases r:i<cs.length
 ·rw[List.getElem?_append_left r]at e
  rw[List.getElem?_append_left oM]at f;exact(m i c o e f).keep s
 ·rw[List.getElem?_append_right oM]at e f
  have t:=(lS.1 e).1;simp at t;have:i-cs.length=0:=oM
  rw[this]at e;rw[show i-j.length=0 by omega]at f;simp at e f;subst e f;exact q
theorem zm7:(Tryz.prog.info? 79).map (fun i=>(i.zero,i.size,i.bytes))=J (J (.agg be0),17,264):=kM
def bedAt(g:LP)(ps:List Pl)(a:Nat)(p:Pl)(c b:Int):Option Be:=
 if (a:Int)=b then M else if b<0 then bedO p g b c else match ps[b.toNat]? with|none=>M|some q=>if meetB p q=true then bedO p (upP2 q) b c else M
def bedsN(g:LP)(ps:List Pl)(a:Nat)(p:Pl)(b:Int)(n:Nat):List Be:=(List.range n).filterMap fun k:Nat=>bedAt g ps a p b ((k:Int)-1)
theorem zhJ(g:LP)(ps:List Pl)(a:Nat)(p:Pl)(c:Int)(n:Nat):bedsN g ps a p c (n+1)=bedsN g ps a p c n++(match bedAt g ps a p c ((n:Int)-1)with|none=>[]|some b=>[b]):=by
 unfold bedsN;rw[List.range_succ,List.filterMap_append]
 congr 1
 cases h:bedAt g ps a p c ((n:Int)-1)<;>simp[h]
theorem ziC(g:LP)(ps:List Pl)(a:Nat)(p:Pl)(b:Int)(n:Nat):(bedsN g ps a p b n).length<=n:=by
 unfold bedsN;have:=List.length_filterMap_le (fun k:Nat=>bedAt g ps a p b ((k:Int)-1)) (List.range n)
 simpa using this
theorem zmK(w:V)(d f:I)(g:LP)(ps:List Pl)(a:Nat)(p:Pl)(b c:Int)(hg:IsPts w d g)(j:IsLas w f ps)(l:ps[a]?=J p)(m:groundB g=true)(hok:∀q∈ps,placedOk q=true)(v : -1<=b)(x:b<ps.length)
  (hp:Bd 104000 c) :
  Calls Tryz.prog 72 #[.agg #[d,f],Y Z a,Y Z b,Y Z c] w (RetBe w (bedAt g ps a p c b)):=by
 have n:=hok p (lM l);unfold bedAt
 by_cases k:(a:Int)=b
 ·rw[if_pos k,<-k]
  exact zkP w d f ps a p c (form3 hg) j l
 rw[if_neg k]
 by_cases s:b<0
 ·rw[if_pos s]
  exact zl6 w d f ps a p b c g (form3 hg) j l (.inl s) (zao n).1 (zby m) (zjb m) (fun W t=>(zin W d f b s (form3 hg) (form3 j)).mono (by rintro e y ⟨rfl,u⟩;exact⟨_,rfl,hg.ext' (t.trans u),u⟩)) hp
 rw[if_neg s];obtain⟨q,o⟩:∃q,ps[b.toNat]?=J q:=⟨ps[b.toNat]' oM,gE _⟩;have r:=lM o;simp only[o];have i:b=((b.toNat:Nat):Int):=oM
 cases hmt:meetB p q with
 | false =>
  rw[if_neg sM];exact ziB w d f ps a p b c (form3 hg) j l b.toNat i q o hmt k
 | true =>
 rw[if_pos rfl];refine zl6 w d f ps a p b c (upP2 q) (form3 hg) j l (.inr ⟨b.toNat,q,i,o,hmt,k⟩) (zao n).1 (zao (hok q r)).2 (znJ (hok q r)) (fun W t=>?_) hp;have:=zku W d f ps b.toNat q (form3 hg) (j.ext' t) o;rw[<-i]at this;exact this
theorem OwnBe.lt{w:V}{base:Nat}{v:I}{b:List Be}(h:OwnBe w base v b):∀j,v.ownBlock=J j->base<=j/\j<w.heap.size:=by obtain⟨d,c,_⟩:=h;exact c.lt
theorem OwnBe.mono{w:V}{base b':Nat}{v:I}{b:List Be}(h:OwnBe w base v b)(k:b'<=base):OwnBe w b' v b:=by obtain⟨c,d,e,f⟩:=h;exact⟨c,d.mono k,e,f⟩
def RetBs(w:V)(b:List Be)(e:Ending)(w':V):Prop:=∃v,e = .returned (.tuple #[v,Y Z 0])/\OwnBe w' w.heap.size v b/\Ext w w'
def BdS(w:V)(b:Nat)(j k:I)(ps:List Pl)(c:Nat->List Be)(f:Nat)(d e:I)(W:V):Prop:=
 ∃i:Nat,i<=ps.length+1/\e=Y Z ((i:Int)-1)/\f=ps.length+1-i/\Ext w W/\b+1<=W.heap.size/\W.heap[b]?=J (.cells #[j,k] 124 (0,0))/\OwnBe W (b+1) d (c i)
theorem PBe.form{w:V}{c:List I}{b:Be}(h:PBe w c b):∃a m c1 s a2 m2 c2 b1 n k t b2 n2 k2 a' m' c' s' a2' m2' c2' b' n' k' t' b2' n2' k2',c=[Y Z b.num,O a m c1,X s,O a2 m2 c2,O b1 n k,X t,O b2 n2 k2,O a' m' c',X s',O a2' m2' c2',O b' n' k',X t',O b2' n2' k2',Y Z b.d1.1,Y Z b.d1.2,Y Z b.d2.1,Y Z b.d2.2]:=by
 obtain⟨f,t,rfl,⟨a,m,c,s,a2,m2,c2,b1,n,k,d,b2,n2,k2,j,_,_⟩,a',m',c',s',a2',m2',c2',b',n',k',t',b2',n2',k2',l,_,_⟩:=h;have e:f=[O a m c,X s,O a2 m2 c2,O b1 n k,X d,O b2 n2 k2]:=by simpa using j
 have i:t=[O a' m' c',X s',O a2' m2' c2',O b' n' k',X t',O b2' n2' k2']:=by simpa using l
 subst e i;exact⟨a,m,c,s,a2,m2,c2,b1,n,k,d,b2,n2,k2,a',m',c',s',a2',m2',c2',b',n',k',t',b2',n2',k2',rfl⟩
theorem bed17{W w':V}{o:Option Be}{e:Ending}(h:RetBe W o e w'):∃nb a m c1 s a2 m2 c2 b1 n k t b2 n2 k2 a' m' c' s' a2' m2' c2' b' n' k' t' b2' n2' k2' e1 e2 e3 e4 bb,e = .returned (.tuple #[.agg #[Y Z nb,O a m c1,X s,O a2 m2 c2,O b1 n k,X t,O b2 n2 k2,O a' m' c',X s',O a2' m2' c2',O b' n' k',X t',O b2' n2' k2',Y Z e1,Y Z e2,Y Z e3,Y Z e4],X bb])/\(bb=true->∃be,o=J be/\PBe w' [Y Z nb,O a m c1,X s,O a2 m2 c2,O b1 n k,X t,O b2 n2 k2,O a' m' c',X s',O a2' m2' c2',O b' n' k',X t',O b2' n2' k2',Y Z e1,Y Z e2,Y Z e3,Y Z e4] be)/\(bb=false->o=M)/\Ext W w':=by
 obtain⟨i,⟨d,f⟩|⟨b,c,d,f,j⟩⟩:=h
 ·exact⟨0,M,0,0,false,M,0,0,M,0,0,false,M,0,0,M,0,0,false,M,0,0,M,0,0,false,M,0,0,0,0,0,0,false,f,(fun h=>by cases h),fun _=>d,i⟩
 ·obtain⟨a,m,c1,s,a2,m2,c2,b1,n,k,t,b2,n2,k2,a',m',c',s',a2',m2',c2',b',n',k',t',b2',n2',k2',rfl⟩:=j.form
  exact⟨b.num,a,m,c1,s,a2,m2,c2,b1,n,k,t,b2,n2,k2,a',m',c',s',a2',m2',c2',b',n',k',t',b2',n2',k2',b.d1.1,b.d1.2,b.d2.1,b.d2.2,true,f,fun _=>⟨b,d,j⟩,(fun h=>by cases h),i⟩
theorem zkR{z wr W D:V}{l i:Nat}{P Q v9:I}{ps:List Pl}{e:Nat->List Be}{L:I}{cs:List (List I)}{d:List I}{K:Be}{A:Array I}(ab:i<ps.length+1)(R:z.heap.size=l)(hx:Ext z wr)(aa:l+1<=wr.heap.size)(T:wr.heap[l]?=J (.cells #[P,Q] 124 (0,0)))
  (y:Ext wr W)(hz:l+1<=W.heap.size)(w:OwnC 79 17 wr (l+1) L cs)(u:cs.length=(e i).length)(v:∀(j:Nat) c b,cs[j]?=J c->(e i)[j]?=J b->PBe wr c b)
  (o:OwnC 79 17 D (l+1) v9 (cs++[d]))(f:(W.alloc (.cells A 79)).grownBy D L.ownBlock)(x:PBe W d K)(hs:e (i+1)=e i++[K]) :
  BdS z l P Q ps e (ps.length+1-(i+1)) v9 (Y Z (i:Int)) D:=by
 have m:=y.alloc (.cells A 79);have q:=w.ext m;have r:l+1<=(W.alloc (.cells A 79)).heap.size:=by simp only[wZ];omega
 have n:=zad (base:=l+1) f r (fun k hk=>(q.lt k hk).1);have s:=q.keepT (T':=2) dM f;have t:=hx.trans m;refine⟨i+1,by omega,by go_num,rfl,t.thenB n oM,nT r n.size,(n.block _ oM).trans (m.heapS T),?_⟩;rw[hs];exact OwnBe.app o u v (m.keep.trans s) ((x.ext ((eR _).alloc _)).keep s)
theorem ziD(w3 w4:V)(q:Nat)(vg vs:I)(ps:List Pl)(a:Nat)(ab:Int)(f:Nat->List Be)(al:Int->Option Be)(Q:Exit->Act->V->Prop)(x0 x3 x4 x5 x6 x7 x9 aU aV av aw ax ay az aA aB aC aD aE aF aG aW aX aY aZ a0 a1 a3 a4 a5 a6 a7 a8 ba bc bf bg bh bi bj bk bl:I)
  (aP:∃a n c,vg=O a n c)(L:IsLas w3 vs ps)(bL:ps.length<=120)(ar:∀n,f (n+1)=f n++(match al ((n:Int)-1)with|none=>[]|some b=>[b]))(ao:∀n,(f n).length<=n)(an:f 0=[])
  (hB:∀W,Ext w3 W->∀b:Int,-1<=b->b<ps.length->Calls Tryz.prog 72 #[.agg #[vg,vs],Y Z a,Y Z b,Y Z ab] W (RetBe W (al b)))
  (ak:Ext w3 w4)(aH:q+1<=w4.heap.size)(am:w3.heap.size=q)(K8:w4.heap[q]?=J (.cells #[vg,vs] 124 (0,0)))
  (hQ:∀(W:V)(ac aT bm bn bo bp bq br bs bt bu bv bw bx bz bA bB bC bD bE bF bG bH bI bJ:I),Ext w3 W->OwnBe W (q+1) ac (f (ps.length+1))->(∃a n c,ac=O a n c)->Q (.exit 0) { tmps:=#[x0,Y Z a,Y Z ab,x3,x4,x5,x6,x7,.pointer (J ⟨q,0,M⟩),x9,ac,aT,bm,bn,av,aw,ax,ay,az,aA,aB,aC,aD,aE,aF,aG,bo,bp,bq,br,bs,bt,bu,bv,bw,bx,bz,bA,bB,bC,bD,bE,bF,bG,bH,bI,bJ],defers:=[] } W) :
  (Code.loop (loopAt Tryz.f16 0)).wp Tryz.prog Q { tmps:=#[x0,Y Z a,Y Z ab,x3,x4,x5,x6,x7,.pointer (J ⟨q,0,M⟩),x9,O M 0 0,Y Z (-1),aU,aV,av,aw,ax,ay,az,aA,aB,aC,aD,aE,aF,aG,aW,aX,aY,aZ,a0,a1,a3,a4,a5,a6,a7,a8,ba,bc,bf,bg,bh,bi,bj,bk,bl],defers:=[] } w4:=by
 obtain⟨ga,gn,gc,rfl⟩:=aP;obtain⟨sa,sn,sc,rfl⟩:=form3 L;have ai:=hd9 (show sn=ps.length from L.len);have HB:=hd9 hB;have aj:=hd9 ar;have ag:=hd9 ao;have af:=hd9 an;have aI:=hd9 am;have HQ:=hd9 hQ;clear hB ar ao an am hQ L;unfold loopAt;simp only[Tryz.f16,loopsOf,List.append_nil,List.nil_append,List.singleton_append,List.getD_cons_zero,List.getD_cons_succ]
 go_loopg [10,11] (ps.length+1) (BdS w3 q (O ga gn gc) (O sa sn sc) ps f)
 case atStart=>exact⟨0,by omega,by go_num,by omega,ak,aH,K8,by rw[af.out];exact OwnBe.nil _ _⟩
 case round =>
  clear K8 ak aH af;obtain⟨i,hi,rfl,rfl,hx,aO,hK,j⟩:=hrel;obtain⟨va,vn,vc,rfl⟩:=j.form3;have m0:=qcB hK (i:=0) (u:=O ga gn gc) rfl;have m1:=qcB hK (i:=1) (u:=O sa sn sc) rfl;have HK:=hd9 hK;have Hx:=hd9 hx;have o:=hd9 j;clear hK
  by_cases aQ:i<ps.length+1
  ·have q1 : -1<=(i:Int)-1:=oM
   have q2:(i:Int)-1<(ps.length:Int):=oM
   have q3:(i:Int)-1<(sn:Int):=by have:=ai.out;omega
   have ae:=hd9 (fun(W:V)(hW:Ext wr W)=>HB.out W (hx.trans hW) ((i:Int)-1) q1 q2);clear hx HB q1 q2;have aJ:=hd9 (fun(W:V)(hW:Ext wr W)=>(ae.out W hW).mono (fun e w' h=>bed17 h));obtain⟨cs,aq,D,ap⟩:=j;have ah:=hd9 aq;have aL:=hd9 ap;have aK:=hd9 D;have aM:=hd9 (show cs.length<=121 by rw[D];exact nT (ag.out i) oM);clear ae aq D ap ag HQ hi
   go_wp2_with(first|(go_at_call 72;(with_reducible refine(aJ.out _ ?_).mono ?_);exact eA;rintro e w5 ⟨nb,a,m,c1,s,a2,m2,c2,b1,n,k,t,b2,n2,k2,a',m',c',s',r,R,x,b',n',k',t',w,aa,P,e1,e2,e3,e4,bb,rfl,au,aR,d⟩;(have z5:=d.size))|(at_builtin;refine appC (T:=79) (t:=54) (z:=.agg be0) (k:=17) (bytes:=264) (base:=q+1) (v:=O va vn vc) (cs:=cs) (m:=1) (c:=1) (ad:=⟨w5.heap.size+1,0,M⟩) zm7 rfl dM dM Tryz.underlying54 rfl _ _ rfl rfl (ah.out.ext ((d.alloc _).alloc _)) rfl [[Y Z nb,O a m c1,X s,O a2 m2 c2,O b1 n k,X t,O b2 n2 k2,O a' m' c',X s',O r R x,O b' n' k',X t',O w aa P,Y Z e1,Y Z e2,Y Z e3,Y Z e4]] rfl sM (by have:=zeW (w5.alloc (.cells #[Y Z nb,O a m c1,X s,O a2 m2 c2,O b1 n k,X t,O b2 n2 k2,O a' m' c',X s',O r R x,O b' n' k',X t',O w aa P,Y Z e1,Y Z e2,Y Z e3,Y Z e4] 79)) #[Y Z nb,O a m c1,X s,O a2 m2 c2,O b1 n k,X t,O b2 n2 k2,O a' m' c',X s',O r R x,O b' n' k',X t',O w aa P,Y Z e1,Y Z e2,Y Z e3,Y Z e4] 79;simpa only[wZ] using this) (by simp[Value.oneCell']) (by have:=aM.out;omega) (by simp only[wZ];omega) ?_;intro v' w9 l K bK;obtain⟨a9,n9,c9,rfl⟩:=l.form3))
   ·go_roundg (ps.length+1-(i+1))
    case measure=>omega
    case rel =>
     obtain⟨be,y,aS⟩:=au (by assumption);exact zkR aQ aI.out Hx.out aO HK.out (d.alloc _) (by simp only[wZ];omega) ah.out aK.out aL.out l K (aS.ext ((eR _).alloc _)) (by rw[aj.out,y])
   ·go_roundg (ps.length+1-(i+1))
    case measure=>omega
    case rel =>
     have y:=aR (by assumption);exact⟨i+1,by omega,by go_num,rfl,(Hx.out.trans d).alloc _,by have:=d.size;simp only[wZ];omega,((eR _).alloc _).heapS (d.heapS HK.out),by rw[aj.out,y,List.append_nil];exact(o.out.ext d).ext ((eR _).alloc _)⟩
  ·obtain rfl:i=ps.length+1:=oM
   have q3:¬(((ps.length+1:Nat):Int)-1<(sn:Int)):=by have:=ai.out;omega
   go_wp2;exact HQ.out _ _ _ _ _ _ _ _ _ _ _ _ _ _ _ _ _ _ _ _ _ _ _ _ _ _ Hx.out o.out ⟨_,_,_,rfl⟩
theorem zmM(w:V)(vg vp:I)(g:LP)(ps:List Pl)(a:Nat)(p:Pl)(c:Int)(hg:IsPts w vg g)(hp:IsPls w vp ps)(T:Gw w)(h0:laidP g ps=0)(ha:ps[a]?=J p)(ao:0<=c)(ap:c<=50)
  (Q:groundB g=true)(hok:∀q∈ps,placedOk q=true)(aj:ps.length<=120) :
  Calls Tryz.prog 16 #[.agg #[vg,vp],Y Z a,Y Z c] w (RetBs w (bedsN g ps a p c (ps.length+1))):=by
 have HL:=hd9 (fun(W:V)(m:Ext w W)=>(zck W vg vp g ps (hg.ext' m) (hp.ext' m) (T.ext m)).mono (fun e w' h=>h.resolve_left (fun h9=>h9.1 h0)));have HB:=hd9 (fun(W:V)(m:Ext w W)(vs:I)(hs:IsLas W vs ps)(b:Int)(u : -1<=b)(v:b<ps.length)=>zmK W vg vs g ps a p b c (hg.ext' m) hs ha Q hok u v (by unfold Bd;omega));obtain⟨ga,gn,gc,rfl⟩:=form3 hg;obtain⟨pa,pn,ar,rfl⟩:=form3 hp;have aa:=hp.len;have Hn:=hd9 aa;have Hw:=hd9 (fun(l:Nat)(h:ps.length=l)=>(show wrongB l a c=false by unfold wrongB;have:=(lS.1 ha).1;simp;omega));clear aa;have hi:=(lS.1 ha).1;obtain⟨t,d⟩:=gX (bedsN g ps a p c);have r:=hd9 (d▸zhJ g ps a p c);have K:=hd9 (d▸ziC g ps a p c);have D:=hd9 (show t 0=[] by rw[<-d];rfl);rw[d];obtain⟨ae,n⟩:=gX (bedAt g ps a p c);rw[n]at HB r;obtain⟨R,hR⟩:=gX (RetBs w (t (ps.length+1)));rw[hR];have HR:=hd9 hR;clear hg hp T h0 ha Q hok hR d n;go_enter Tryz.func16,Tryz.ntmps16
 go_wp2_with(first|(go_at_call 49;(with_reducible refine(HL.out _ ?_).mono ?_);exact eA;rintro e y ⟨-,vs,rfl,j,k⟩;obtain⟨sa,l,sc,rfl⟩:=form3 j;obtain⟨af,ah⟩:=k.cells;(have z3:=k.size);(simp only[wZ]at z3);(have ak:wrongB l a c=false:=Hw.out l j.len.symm);(have s:=hd9 j);clear j;(have am:w.heap.size<y.heap.size:=oM))|(go_at_call 71;(with_reducible refine(zkF _ (O ga gn gc) sa l sc a c ⟨_,_,_,rfl⟩).mono ?_);rw[ak];rintro e w4 ⟨rfl,f⟩;obtain⟨ag,ai⟩:=f.cells;(have z4:=f.size);(simp only[wZ]at z4)))
 have X3:Ext w y:=((eR w).alloc _).trans k;have an:=hd9 (show l=ps.length from s.out.len);have K8:=f.heapS (aN y (.cells #[O ga gn gc,O sa l sc] 124));have P:Ext y w4:=((eR y).alloc _).trans f;obtain⟨b8,i⟩:=gX y.heap.size;have z:=hd9 X3;have ac:=hd9 i;have aq:w.heap.size<=b8:=oM
 have al:b8+1<=w4.heap.size:=oM
 rw[i]at K8;simp only[i];clear af ah ag ai k f X3 i z3 z4 am;refine ziD y w4 b8 (O ga gn gc) (O sa l sc) ps a c t ae _ _ _ _ _ _ _ _ _ _ _ _ _ _ _ _ _ _ _ _ _ _ _ _ _ _ _ _ _ _ _ _ _ _ _ _ _ _ _ _ _ _ _ ⟨_,_,_,rfl⟩ s.out aj r.out K.out D.out (fun W m b u v=>HB.out W (z.out.trans m) _ (s.out.ext' m) b u v) P al ac.out K8 ?_;intro W au av aw ax ay az aA aB aC aD aE aF aG aH aI aJ aK aL aM aO aP aQ aR aS aT ab o x;obtain⟨va,vn,vc,rfl⟩:=x;have ad:=hd9 ab;have L:=hd9 o;clear ab o K8 P HL HB r K D;go_wp2;rw[<-HR.out];exact⟨_,rfl,L.out.mono oM,z.out.trans ad.out⟩
section
variable {g:LP} {ps:List Pl} (hg:Rise g) (ng:g≠[]) (hok:∀p∈ps,placedOk p=true) {a:Nat} {p:Pl} (hp:ps[a]?=J p)
include hg ng hok hp
end
end
section
open Go.RowKit Go.Shelf Go.Sort Go.Lib Go.Maps
def mvQ(d q:Int×Int):Int×Int:=(q.1+d.1,q.2+d.2)
def mvL(d:Int×Int)(l:LP):LP:=l.map (mvQ d)
theorem LowV.mv{cs:LP}{q:Int×Int}(d:Int×Int)(h:LowV cs q):LowV (mvL d cs) (mvQ d q):=by
 obtain⟨u,v,⟨b,e⟩,c⟩:=h;exact⟨mvQ d u,mvQ d v,⟨b.maps _,by unfold mvQ;dsimp only;omega⟩,by rcases c with rfl|rfl<;>simp⟩
theorem UpV.mv{cs:LP}{q:Int×Int}(d:Int×Int)(h:UpV cs q):UpV (mvL d cs) (mvQ d q):=by
 obtain⟨u,v,⟨b,e⟩,c⟩:=h;exact⟨mvQ d u,mvQ d v,⟨b.maps _,by unfold mvQ;dsimp only;omega⟩,by rcases c with rfl|rfl<;>simp⟩
theorem Rise.mv{l:LP}(d:Int×Int)(h:Rise l):Rise (mvL d l):=by
 unfold Rise mvL at *;rw[List.pairwise_map];exact h.imp fun h=>by unfold mvQ;dsimp only;omega
end
section
open Go.RowKit Go.Shelf Go.Sort

end
end Go.Proofs.YtjnjpagegkcgfaaGreatDoor.Cop
