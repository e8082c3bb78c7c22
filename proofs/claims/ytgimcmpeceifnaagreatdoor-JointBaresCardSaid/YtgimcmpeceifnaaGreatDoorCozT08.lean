import Derived.Test.YtgimcmpeceifnaaGreatDoorCozT07
import Derived.Maps.Own
set_option maxRecDepth 1000000
set_option maxHeartbeats 16000000
set_option linter.all false
open Go.Value renaming int->O,slice->Z
open Go.IntKind renaming i64->Y
namespace Go.Proofs.YtgimcmpeceifnaaGreatDoor.Cop
section
open Go.RowKit Go.Shelf Go.Sort Go.Lib Go.Maps
attribute [local go_sem] Oper.semAt_some
end
section
open Go.RowKit Go.Shelf Go.Sort Go.Lib Go.Maps
end
section
open Go.RowKit Go.Shelf Go.Sort
end
section
open Go.RowKit Go.Shelf Go.Sort Go.Lib
end
section
open Go.RowKit Go.Shelf Go.Sort Go.Lib
attribute [local go_sem] Oper.semAt_some
def pX{k p hi:Int}{js:List JS}(a:Bd k hi)(h:∀j∈js,Bd k j.x.1/\Bd k j.x.2):Bd k (rj p hi js).1/\Bd k (rj p hi js).2:=by
 rcases Xx (p:=p) (hi:=hi) (js:=js)with ⟨e,-⟩|⟨j,b,e,-⟩
 ·rw[e];exact⟨a,a⟩
 ·rw[e];exact h j b
def YW{p hi b t:Int}{ps:List Pl}:rj p hi (xb b t (ps.take 0))=(hi,hi):=by simp[xb,Me,rj]
def sX(w:World)(vg vp:Value)(ps:List Pl)(k m lo hi:Int)(hg:∃a n c,vg=Z a n c)(hp:pf w vp ps)(af:∀p∈ps,Ia p=true)(aE:ps.length<=120)(ap:Bd 104000 lo)(ae:Bd 104000 hi):Calls Tryz.prog 23 #[.agg #[vg,vp],O Y k,O Y m,O Y lo,O Y hi] w fun e w'=>(∃n,e=.returned (O Y n)/\Zc lo hi (xb k m ps) n)/\Ba w w':=by
 obtain⟨ga,gn,gc,rfl⟩:=hg;have HP:=Aa hp;have av:=Aa af;have HB:=Aa (fun(q:Int)=>pX (p:=q) (js:=xb k m ps) ae (fun j hj=>(Tq af (List.mem_filter.1 hj).1).1));obtain⟨pa,aj,rfl⟩:=hp.form;obtain⟨n,hn⟩:=gX ps.length;rw[hn]at HP aE ⊢;have Hn:=Aa hn;have aH:=Aa ae;have aA:=Aa ap;clear hp af hn ap ae;go_in;go_wp2;obtain⟨U0,ab⟩:=gX (w.alloc (.cells #[Z ga gn gc,Z pa n aj] 25));have X1:Ba w U0:=by rw[<-ab];exact(eR _).alloc _
 have K2:U0.heap[w.heap.size]?=some (.cells #[Z ga gn gc,Z pa n aj] 25 (0,0)):=by rw[<-ab];exact aN w _
 obtain⟨s,d⟩:=gX w.heap.size;rw[ab];simp only[d]at K2 ⊢;have HC:=Aa (Da K2 (i:=1) rfl);have ak:=Aa X1;have aw:=Aa (HP.o.f X1);clear ab X1 K2 d HP;go_loopw [11,12] (WX U0 k m lo hi ps) (fun _ aF _=>(hi-intOf aF).toNat)
 case atStart =>
  have:=aA.o;exact⟨0,lo,rfl,rfl,Si.start _ _ _,by unfold Bd at this ⊢;omega,by omega,eR _⟩
 case round =>
  obtain⟨most,p,rfl,rfl,hI,aa,hm,hx⟩:=hrel;have HI:=Aa hI;have HX:=Aa hx;have aB:=Aa aa;have Hm:=Aa hm;clear hI hx aa hm;by_cases aq:p<hi
  ·go_wp2;obtain⟨U,hU⟩:∃U:World,U=wr:=⟨_,rfl⟩;rw[<-hU]at HX ⊢;clear hU wr;go_loopw [13,14,15] (XX U k m hi p ps) (fun _ _ aG _=>n-(intOf aG).toNat)
   case atStart=>exact⟨0,rfl,by omega,by rw[YW],by rw[YW],eR _⟩
   case round =>
    obtain⟨i,rfl,aD,rfl,rfl,hx⟩:=hrel;rw[Hn.o]at aD;have c1:=(HX.o.trans hx).d HC.o;by_cases ar:i<n
    ·obtain⟨q,ac⟩:∃q,ps[i]?=some q:=⟨_,gE (by rw[Hn.o];exact ar)⟩;obtain⟨b,o,v,rfl,hb,hv,f,u⟩:=(aw.o.f (HX.o.trans hx)).at' ac;have ad:=av.o q (lM ac);have HE:=Aa (fun W (hW:Ba wr W)=>py W v q (hv.f hW) ad);have d:=rX (p:=p) (hi:=hi) (b:=k) (t:=m) ac;obtain⟨⟨nx,en⟩,hr⟩:∃r,rj p hi (xb k m (ps.take i))=r:=⟨_,rfl⟩;obtain⟨⟨xl,xh⟩,ah⟩:∃r,pd Prod.fst (Ca q)=r:=⟨_,rfl⟩;obtain⟨⟨zl,zh⟩,ai⟩:∃r,pd Prod.snd (Ca q)=r:=⟨_,rfl⟩;rw[hr,ah,ai]at d;rw[hr];rw[ah,ai]at HE;dsimp only at d HE ⊢;have g:=Aa d;have ay:=Aa hx;obtain⟨sa,sn,sc,rfl⟩:=hv.i;have g0:(0:Int)<=(i:Int):=oM;have g1:(i:Int)<(n:Int):=oM;unfold Dd at u HE;have d0:=u 0 (.string q.name) rfl;have d1:=u 1 (Z sa sn sc) rfl;have d2:=u 2 (O Y q.depth) rfl;have d3:=u 3 (O Y q.density) rfl;have d4:=u 4 (O Y q.gx) rfl;have d5:=u 5 (O Y q.gz) rfl;have d6:=u 6 (O Y q.way) rfl;have d7:=u 7 (O Y q.ax) rfl;have d8:=u 8 (O Y q.az) rfl;have d9:=u 9 (O .u8 q.skin) rfl;simp only[Nat.add_zero]at d0;clear u ac hv f hx hr ah ai d ad hb;go_upto_region 10 with (go_at_call 43;refine cM (HE.o _ (eR _)) ?_;rintro e w2 ⟨rfl,ag⟩);obtain⟨c1,d0,d1,d2,d3,d4,d5,d6,d7,d8,d9,-⟩:=(cE (show Ea [(⟨s,1,none⟩,Z (some ⟨b,o,none⟩) n aj),(⟨b,o+i*10,none⟩,.string q.name),(⟨b,o+i*10+1,none⟩,Z sa sn sc),(⟨b,o+i*10+2,none⟩,O Y q.depth),(⟨b,o+i*10+3,none⟩,O Y q.density),(⟨b,o+i*10+4,none⟩,O Y q.gx),(⟨b,o+i*10+5,none⟩,O Y q.gz),(⟨b,o+i*10+6,none⟩,O Y q.way),(⟨b,o+i*10+7,none⟩,O Y q.ax),(⟨b,o+i*10+8,none⟩,O Y q.az),(⟨b,o+i*10+9,none⟩,O .u8 q.skin)] wr from⟨c1,d0,d1,d2,d3,d4,d5,d6,d7,d8,d9,trivial⟩) ag);have z:=Aa (ay.o.trans ag);have HO:=Aa (fun W=>KX W zl zh k m);clear HE ag;by_cases f:q.skin=3
     ·(have e1:(q.skin==3)=true:=by simpa using f);by_cases y:zl<m/\k<zh/\zl<zh/\k<m
      ·(have e2:(decide (zl<m)&&(decide (k<zh)&&(decide (zl<zh)&&decide (k<m))))=true:=by simp[y]);rw[e2]at HO;by_cases h3:p<xh
       ·by_cases h4:xl<nx
        ·have d:=g.o;rw[if_pos ⟨⟨f,y⟩,h3,h4⟩]at d;have x:=Aa d;clear d g e2 f y;go_wp2_with(go_at_call 63;refine cM (HO.o _) ?_;rintro e w3 ⟨rfl,l⟩);go_roundw
         case rel=>exact⟨i+1,by go_num,by rw[Hn.o];omega,by rw[x.o],by rw[x.o],z.o.trans l⟩
         case measure=>simp[intOf];omega
        ·have d:=g.o;rw[if_neg (fun R=>h4 R.2.2)]at d;have x:=Aa d;clear d g e2 f y;go_wp2_with(go_at_call 63;refine cM (HO.o _) ?_;rintro e w3 ⟨rfl,l⟩);go_roundw
         case rel=>exact⟨i+1,by go_num,by rw[Hn.o];omega,by rw[x.o],by rw[x.o],z.o.trans l⟩
         case measure=>simp[intOf];omega
       ·have d:=g.o;rw[if_neg (fun R=>h3 R.2.1)]at d;have x:=Aa d;clear d g e2 f y;go_wp2_with(go_at_call 63;refine cM (HO.o _) ?_;rintro e w3 ⟨rfl,l⟩);go_roundw
        case rel=>exact⟨i+1,by go_num,by rw[Hn.o];omega,by rw[x.o],by rw[x.o],z.o.trans l⟩
        case measure=>simp[intOf];omega
      ·have e2:(decide (zl<m)&&(decide (k<zh)&&(decide (zl<zh)&&decide (k<m))))=false:=by
        rw[<-Bool.decide_and,<-Bool.decide_and,<-Bool.decide_and];simpa using y
       rw[e2]at HO;have d:=g.o;rw[if_neg (fun R=>y R.1.2)]at d;have x:=Aa d;clear d g e2 f y;go_wp2_with(go_at_call 63;refine cM (HO.o _) ?_;rintro e w3 ⟨rfl,l⟩);go_roundw
       case rel=>exact⟨i+1,by go_num,by rw[Hn.o];omega,by rw[x.o],by rw[x.o],z.o.trans l⟩
       case measure=>simp[intOf];omega
     ·(have e1:(q.skin==3)=false:=by simpa using f);have d:=g.o;rw[if_neg (fun R=>f R.1.1)]at d;have x:=Aa d;clear d g f;go_wp2_with(go_at_call 63;refine cM (HO.o _) ?_;rintro e w3 ⟨rfl,l⟩);go_roundw
      case rel=>exact⟨i+1,by go_num,by rw[Hn.o];omega,by rw[x.o],by rw[x.o],z.o⟩
      case measure=>simp[intOf];omega
    ·obtain rfl:i=n:=oM;(have e9:ps.take i=ps:=by rw[<-Hn.o,List.take_length]);have hb:=HB.o p;have h1:hi<=(rj p hi (xb k m ps)).1->_:=HI.o.last aq;have y:(rj p hi (xb k m ps)).1<hi->_:=HI.o.step aq;simp only[e9];obtain⟨⟨nx,en⟩,hr⟩:∃r,rj p hi (xb k m ps)=r:=⟨_,rfl⟩;simp only[hr]at hb h1 y ⊢;have an:=hb.1;have ao:=hb.2;have aa:=aB.o;have hm:=Hm.o;unfold Bd at an ao aa;have kw:IntKind.i64.wrap (nx-p)=nx-p:=iW _ oM;have al:=Aa (HX.o.trans hx);obtain⟨M,hM⟩:=gX (max most (nx-p));rw[hM]at h1 y;have H1:=Aa h1;have H2:=Aa y;have am:M<=100000000:=oM;have au:=Aa am;have He:Va (Bd 10000000 en):=Aa (by unfold Bd;omega);have u:(most<nx-p/\M=nx-p)\/(¬most<nx-p/\M=most):=oM;clear h1 y hb an ao aa hm hx hr hM am e9;by_cases aC:hi<=nx
     ·rcases u with ⟨h3,rfl⟩|⟨h3,rfl⟩
      all_goals
       go_wp2;go_ret;exact⟨⟨_,rfl,H1.o aC⟩,ak.o.trans al.o⟩
     ·have R:=H2.o oM;have H9:=Aa R;have aI:=R.2;clear R;rcases u with ⟨h3,rfl⟩|⟨h3,rfl⟩
      all_goals
       go_wp2;go_roundw
       case rel=>exact⟨_,_,rfl,rfl,H9.o.1,He.o,au.o,al.o⟩
       case measure=>simp[intOf];omega
  ·go_wp2;go_ret;exact⟨⟨_,rfl,HI.o.done oM⟩,ak.o.trans HX.o⟩
