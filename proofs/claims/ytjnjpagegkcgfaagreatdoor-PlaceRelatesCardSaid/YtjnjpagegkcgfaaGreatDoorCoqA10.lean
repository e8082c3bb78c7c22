import Derived.Test.YtjnjpagegkcgfaaGreatDoorCoqA09
set_option maxRecDepth 1000000
set_option maxHeartbeats 16000000
set_option linter.all false
open Go.Value renaming slice->O,int->Z,agg->I,bool->C,pointer->F,tuple->H
open Option renaming none->Y,some->J
open Go.IntKind renaming i64->X
open Go renaming World->V,Value->M
open Go.Obj renaming cells->N
namespace Go.Proofs.YtjnjpagegkcgfaaGreatDoor.Cop
section
open Go.RowKit Go.Shelf
attribute [local go_sem] Oper.semAt_some
def ZN w va(n0:Nat)(ha:Gd w va n0)(hl:Lm Zb n0):Calls Tryz.prog 211 #[va] w fun e w'=>e=.returned (.string ⟨(Se n0).toArray⟩)/\Aa w w':=by
 obtain⟨a0,m0,c0,rfl⟩:=ha.form;have Hl:=ka hl;have Ha:=ka ha;obtain⟨Tx,ag⟩:=gX (Se n0);rw[ag];have ak:=ka ag;clear ha hl ag;go_in;go_wp2;go_loopg [3] n0 (Iy w n0)
 case atStart=>exact⟨n0,n0+1,[],a0,m0,c0,rfl,by omega,by rw[List.append_nil],by simp,by simp,fun s hs=>(by cases hs),(eR _).alloc _,aN _ _,Ha.o.ext ((eR _).alloc _),Ka.nil _ _ _ _,by simp⟩
 case round =>
  obtain⟨n,k,ps,a,m,c,hg,hk,ab,ah,ac,h7,hx,hb,hd,ho,hz⟩:=hrel;have Hx:=ka hx;have Hd:=ka hd;have k1:=cell_of_one hb;have kf:=free_of_one hb;have kf:=free_of_one hb;by_cases h0:n=0
  ·have aD:((n:Int)==0)=true:=by simp[h0]
   have aw:Wa (n0+1) n0=ps:=by rw[ab,h0,Xp,List.nil_append]
   have HJ:=ka (fun(W:V)(hW:Aa wr W)=>XJ W u3 w.heap.size ps (ho.ext hW) ah h7);obtain⟨va,vn,vc,rfl⟩:=ho.i;obtain⟨T,hT⟩:=gX (Lib.trimLeftB ps.flatten 48);have ax:Tx=if T=[]then [48]else T:=by rw[<-ak.o];unfold Se;rw[aw,hT]
   have HT:=ka hT;have al:=ka ax;clear hg hk ab ah ac h7 hd ho aw hT ax ak;cases T with
   |nil=>
    go_wp2_with(first|((go_at_call 166;(with_reducible refine(Zj _ (I #[O a m c]) n ?_).mono ?_);(refine Hd.o.ext ?_;exact eA);rintro e w1 ⟨rfl,ad⟩))|(go_at_call 250;refine cM (HJ.o _ eA) ?_;rintro e g ⟨rfl,ae⟩)|(go_at_call 249;(with_reducible refine(Tryz.strings_TrimLeft_one _ 48 dM _).mono ?_);rintro e w3 ⟨rfl,rfl⟩;rw[HT.o]));go_ret;(have e:Tx=[48]:=by have:=al.o;simpa using this);exact⟨by rw[e];rfl,Hx.o.trans eA⟩
   | cons t T =>
    go_wp2_with(first|((go_at_call 166;(with_reducible refine(Zj _ (I #[O a m c]) n ?_).mono ?_);(refine Hd.o.ext ?_;exact eA);rintro e w1 ⟨rfl,ad⟩))|(go_at_call 250;refine cM (HJ.o _ eA) ?_;rintro e g ⟨rfl,ae⟩)|(go_at_call 249;(with_reducible refine(Tryz.strings_TrimLeft_one _ 48 dM _).mono ?_);rintro e w3 ⟨rfl,rfl⟩;rw[HT.o]));go_ret;(have e:Tx=t::T:=by have:=al.o;simpa using this);exact⟨by rw[e];rfl,Hx.o.trans eA⟩
  ·have aD:((n:Int)==0)=false:=by simp[h0]
   obtain⟨k',am,an,ao,ap⟩:=Iy.step Hl.o h0 hk ab ac;have au:Lm Fd (n:Int):=by
    have h9:=Hl.o;have h8:n<=n0:=nT (Nat.le_mul_of_pos_right _ (Nat.pow_pos dM)) ac;have h7:Lm Fd (n0:Int):=h9.mono dM;exact⟨by have:=h7.1;have:(0:Int)<=B ^ Fd:=Int.le_of_lt (jj Pn _);omega,by have:=h7.2;omega⟩
   have aB:=ka au;have af:Ta (n/10000000<k'/\Wa (n0+1) n0=Wa k' (n/10000000)++(Jf (n%10000000)::ps)/\(Jf (n%10000000)::ps).length<=2*Zb/\n/10000000*2 ^ (23*(Jf (n%10000000)::ps).length)<=n0):=ka ⟨am,an,ao,ap⟩;have aA:=ka (show Lm Fd 10000000 from Lm.mono (j:=1) ⟨by decide,by decide⟩ dM);clear au am an ao ap ab ah ac;obtain⟨f,aM⟩:=gX (n%10000000);have aP:(n:Int)%10000000=(f:Int):=oM;have av:Lm 2 (f:Int):=⟨by unfold B;omega,by unfold B;omega⟩;have aC:=ka av;clear av;go_upto_region 5 with (first|((go_at_call 166;(with_reducible refine(Zj _ (I #[O a m c]) n ?_).mono ?_);(refine Hd.o.ext ?_;exact eA);rintro e w1 ⟨rfl,ad⟩;obtain⟨aF,aI⟩:=ad.cells;(have z1:w.heap.size<w1.heap.size:=by have:=ad.size;omega)))|((go_at_call 182;(with_reducible refine(It _ (I #[O a m c]) (I #[O (J ⟨w1.heap.size,0,Y⟩) 1 1]) n 10000000 ?_ ?_ aB.o aA.o dM).mono ?_);(refine Hd.o.ext ?_;exact eA);(exact IH w1 dM dM);rintro e g ⟨q,r,rfl,hq,hr,ae⟩;rw[aP]at hr;obtain⟨⟨aq,mq,cq,rfl⟩,⟨ar,mr,cr,rfl⟩⟩:=And.intro hq.u.form hr.u.form;obtain⟨aG,aJ⟩:=ae.cells;(have z2:w.heap.size<g.heap.size:=by have:=ae.size;simp only[wZ]at this;omega)))|((go_at_call 138;(with_reducible refine(Pu _ (I #[O ar mr cr]) (f:Int) ?_ aC.o).mono ?_);(refine hr.u.ext ?_;exact eA);rintro e w3 ⟨rfl,ai⟩;(have z3:g.heap.size+1+1<=w3.heap.size:=by have:=ai.size;simp only[wZ]at this;omega))));clear aF aI aG aJ;have X3:Aa wr w3:=eA;obtain⟨wo,rfl⟩:∃W,W=wr:=⟨_,rfl⟩;have aS:=xQ;go_wp2;go_loopg [6,25] 7 (OQ w3 f w3.heap.size)
   case atStart=>exact⟨0,by omega,rfl,rfl,by rw[Nat.pow_zero,Nat.div_one],(eR _).alloc _,aN _ _⟩
   case round =>
    obtain⟨i,hi,aR,rfl,rfl,d,P⟩:=hrel;by_cases aK:i<7
    ·obtain⟨x,aj⟩:=gX (f/10 ^ i);rw[aj];have aT:x<10000000:=by
      have:f/10 ^ i<=f:=Nat.div_le_self _ _;omega
     obtain⟨j,hj⟩:=gX (6-i);obtain⟨u,hu⟩:∃u,(nj f i)[j]?=J u:=⟨_,Array.getElem?_eq_getElem (by unfold nj;rw[List.size_toArray,lL,PC];omega)⟩;have ki:=Ba P hu;have aW:=Ya P;(have e6:IntKind.i64.wrap (6-(i:Int))=(j:Int):=by rw[iW _ oM];omega);obtain⟨y,hy⟩:=gX (48+x%10);(have e7:IntKind.u64.wrap (48+(x:Int)%10)=(y:Int):=by rw[IntWalk.u64_in _ oM];omega);have e8:IntKind.u8.wrap (y:Int)=(y:Int):=IntWalk.u8_in _ oM;have z9:=d.size;go_wp2;go_roundg (7-(i+1))
     case measure=>omega
     case rel =>
      refine⟨i+1,by omega,rfl,by go_num,?_,d.set (nE _) _,?_⟩
      ·rw[show f/10 ^ (i+1)=x/10 by rw[Nat.pow_succ,<-Nat.div_div_eq_div_mul,aj]];simp
      ·have h9:=nM f aK;rw[aj,hy,hj]at h9;rw[<-h9];simp[World.setCell,Array.getElem?_modify,P]
    ·obtain rfl:i=7:=oM;have az:=ka P;clear P;go_upto_region 12 with fail;have aH:(convert 308 9 (O (J ⟨w3.heap.size,0,Y⟩) 7 7)).run Tryz.prog wr.drew = .ok (.string ⟨(Jf f).toArray⟩) wr.drew:=Es (W:=wr.drew) az.o;have c4:wr.cell? ⟨g.heap.size,0,Y⟩=J (O aq mq cq):=by
      (have h1:(g.alloc (N #[O aq mq cq] 59)).cell? ⟨g.heap.size,0,Y⟩=J (O aq mq cq):=by go_simp);exact d.d (ai.d (Aa.d ((eR _).alloc _) h1))
     refine Uc [(⟨g.heap.size,0,Y⟩,O aq mq cq)] cA fun b=>?_;refine Ib (i:=0) ?_;refine Ib (i:=3) ?_;refine Ib (i:=5) ?_;refine Vc (i:=1) fun K l=>?_;go_simp;refine kO l b (fun b=>?_);clear l K aH;refine Vc (i:=2) fun K l=>?_;go_simp;refine kO l (cE b ((eR _).alloc _)) (fun b=>?_);clear l K;refine Vc (i:=4) fun K l=>?_;have hA:Aa w wr:=Hx.o.trans (X3.trans d);refine EA (T:=9) (t:=307) (z:=.string ⟨#[]⟩) (k:=1) (bytes:=16) (v:=O (J ⟨wr.heap.size,0,Y⟩) 1 1) (base:=w.heap.size) jK rfl dM dM Tryz.underlying307 rfl _ _ rfl rfl (XG (Jf f) hA.size) rfl (ps.map sc) PG ((ho.ext (((X3.trans d).alloc _).drew)).rd) EH ?_ ?_ ?_
     ·rw[lL,List.length_singleton];have h9:=af.o.2.2.1;unfold Zb at h9;rw[List.length_cons]at h9;omega
     ·have:=hA.size;simp only[jc,wZ];omega
     intro v' w9 aa R aQ;obtain⟨a9,n9,c9,rfl⟩:=aa.i;(have zb:g.heap.size<wr.heap.size:=by have:=d.size;omega);refine kO l (Ea.grown b R (fun q hq e=>?_)) (fun b=>?_)
     ·have h9:wr.heap.size=g.heap.size:=by
       simp at hq;subst hq;exact Option.some.inj e.symm
      omega
     clear l K;have X9:Aa wr w9:=(((eR wr).alloc (N #[.string ⟨(Jf f).toArray⟩] 9)).drew).y (Bh (base:=wr.heap.size) R (by simp only[jc,wZ];omega) (fun k hk=>by cases hk;exact nE _)) (nE _);have o:w9.heap[w.heap.size]?=J (N #[O a m c] 59 (0,0)):=((X3.trans d).trans X9).e hb;have aU:=cell_of_one o;have aV:=free_of_one o;refine Ib (i:=6) ?_;have aO:Gd w9 (I #[O aq mq cq]) ((n/10000000:Nat):Int):=by
      (have h9:Gd g (I #[O aq mq cq]) ((n/10000000:Nat):Int):=by rw[show ((n/10000000:Nat):Int)=(n:Int)/10000000 by omega];exact hq.u);exact((h9.ext ((((eR _).alloc _).alloc _).trans ai)).ext d).ext X9
     have hT:Ia 2 w9 (w9.setCell ⟨w.heap.size,0,Y⟩ (O aq mq cq)):=(Ia.refl _ w9).set o dM _;have aE:Ia 9 w9 (w9.setCell ⟨w.heap.size,0,Y⟩ (O aq mq cq)):=(Ia.refl _ w9).set o dM _;have aL:∀q∈[((⟨g.heap.size,0,Y⟩:Addr),Value.slice aq mq cq)],(⟨w.heap.size,0,Y⟩:Addr).block≠q.1.block:=by
      intro q hq;simp at hq;subst hq;dsimp only;omega
     refine Vc (i:=7) fun K l=>?_;go_simp;refine kO l (Ea.set b aL _) (fun b=>?_);clear l K;refine Sb ?_;go_wp2;have ay:=ka o;go_roundg (n/10000000)
     case measure=>omega
     case rel =>
      obtain⟨g1,g2,g3,g4⟩:=af.o;rw[aM]at g2 g3 g4;refine⟨n/10000000,k',Jf f::ps,aq,mq,cq,rfl,g1,g2,g3,g4,?_,?_,?_,?_,?_,?_⟩
      ·intro s hs;rcases List.mem_cons.1 hs with rfl|hs
       ·rfl
       ·exact h7 s hs
      ·exact Aa.set (p:=⟨w.heap.size,0,Y⟩) (hA.trans X9) (nE _) _
      ·exact one_setCell ay.o
      ·exact aO.keep hT
      ·exact aa.keep aE
      ·have:=hA.size;have:=X9.size;simp;omega
end
section
open Go.RowKit Go.Shelf Go.Sort Go.Lib
def Na(s:Sp):Rat×Rat:=xb (Tb s) (Pa s)
def Al s:Pa s≠[]:=by unfold Pa;intro h;have b:Eb s=[]:=List.map_eq_nil_iff.1 h;unfold Eb at b;have d:=SO (zs:=Vf (s.lo::s.hi::Wf s (s.over++s.under))) (by intro e;have:=congrArg List.length e;rw[Rr]at this;simp at this);exact d b
def Qr w y z s(u:Fa w y s.over)(x:Fa w z s.under)(f:Rf s):Calls Tryz.prog 59 #[ni s y z] w (Di w (Na s).1 (Na s).2):=by
 have HS:=ka (fun(W:V)(r:Aa w W)=>NE W y z s (u.f r) (x.f r) f);have HB:=ka (fun(W:V)(r:Aa w W)(v:M)(hv:Sf W v (Pa s))=>NL W v y z s (Pa s) hv (u.f r) (x.f r) f (Wj f));obtain⟨a1,m1,rfl⟩:=u.form;obtain⟨a2,m2,rfl⟩:=x.form;obtain⟨n1,f1⟩:=gX s.over.length;obtain⟨n2,f2⟩:=gX s.under.length;obtain⟨lo,o⟩:=gX s.lo;obtain⟨hi,n⟩:=gX s.hi;obtain⟨R,hR⟩:=gX (Di w (Na s).1 (Na s).2);rw[hR];have HR:=ka hR;unfold ni at HS HB ⊢;simp only[f1,f2,o,n]at HS HB ⊢;clear u x f f1 f2 o n hR;have ah:∀(fn:Fn)(first cap:Array M)(w:V),(Instr.makeFunc fn first cap).run Tryz.prog w = .ok (.func fn first cap) w:=fun _ _ _ _=>rfl;go_in;go_wp2;refine Uc [(⟨w.heap.size,0,Y⟩,O a1 n1 m1),(⟨w.heap.size,1,Y⟩,O a2 n2 m2),(⟨w.heap.size,2,Y⟩,Z X lo),(⟨w.heap.size,3,Y⟩,Z X hi)] cA fun d=>?_;refine Ib (i:=0) ?_;refine sN 2 ?_
 iterate 2 refine Bb ?_
 refine oN ?_;refine Fb (i:=1) (HS.o _ eA) ?_;rintro e w3 ⟨r3,rfl,aa,l⟩;refine⟨_,rfl,(cE d l),fun d=>?_⟩;have X3:Aa w w3:=eA;refine Fb (i:=4) (HB.o _ X3 _ aa.rs) ?_;rintro e w4 ⟨r4,r5,rfl,j,k,g⟩;obtain⟨⟨a4,m4,c4,s4,b4,n4,k4,rfl⟩,a5,m5,c5,s5,b5,n5,k5,rfl⟩:=And.intro j.form k.form;refine⟨_,rfl,(cE d g),fun d=>?_⟩;refine sN 5 ?_
 iterate 2 refine Bb ?_
 refine oN ?_;have X4:Aa w w4:=X3.trans g;have hO:RB w4 (w.heap.size+1) 0:=(((RB.new (Sa.zero _) sM).ext ((eR _).alloc _)).ext ((eR _).drew.trans l)).ext g;have hP:RB w4 (w.heap.size+1+1) 0:=((RB.new (Sa.zero _) sM).ext ((eR _).drew.trans l)).ext g;obtain⟨_,_,_,_,_,_,_,o0,o1,o2,ab,ac,ad,zo,_⟩:=hO.rd;obtain⟨_,_,_,_,_,_,_,p0,p1,p2,ae,af,ag,zp,_⟩:=hP.rd;have t:∀b,w.heap.size<b->∀q∈[((⟨w.heap.size,0,Y⟩:Addr),Value.slice a1 n1 m1),(⟨w.heap.size,1,Y⟩,O a2 n2 m2),(⟨w.heap.size,2,Y⟩,Z X lo),(⟨w.heap.size,3,Y⟩,Z X hi)],b≠q.1.block:=by
  intro b hb;simp;omega
 refine Vc (i:=7) fun K p=>?_;go_simp;refine kO p (Ea.set3 d (t _ oM) _ _ _) (fun d=>?_);clear p K;refine Vc (i:=8) fun K p=>?_;go_simp;refine kO p (Ea.set3 d (t _ oM) _ _ _) (fun d=>?_);clear p K;refine Sb ?_;have P:=ka (RB.copy2 hO hP oM j k rfl rfl);go_wp2;refine bR (v:=H #[I #[O a4 m4 c4,C s4,O b4 n4 k4],I #[O a5 m5 c5,C s5,O b5 n5 k5]]) (by simp[results,Tryz.results59,go_sem,o0,o1,o2,ab,ac,ad,p0,p1,p2,ae,af,ag]) rfl ?_;rw[<-HR.o];obtain⟨P1,P2,P3,P4,P5,P6⟩:=P.o;exact⟨_,_,rfl,j.keep P4,k.keep P4,P6 w X4 oM oM⟩
def ye(ps b:LP):Bool:=if (Ac ps b).lo<(Ac ps b).hi then decide (0<=(Na (Ac ps b)).2.num.sign)else true
def Ot w u x ps f(r:Fa w u ps)(t:Fa w x f)(k1:Wb ps)(k2:Wb f):Calls Tryz.prog 131 #[u,x] w fun e w'=>e=.returned (C (ye ps f))/\Aa w w':=by
 have l1:0<ps.length:=List.length_pos_iff.2 k1.1;have l2:0<f.length:=List.length_pos_iff.2 k2.1;have b:=ka (fun(W:V)(n:Aa w W)=>Uo W u x ps f (r.f n) (t.f n) l1 l2);have p:=ka (fun(W:V)(n:Aa w W)=>Qr W u x (Ac ps f) (r.f n) (t.f n) (Mm k1 k2));obtain⟨B,y⟩:=gX (ye ps f);rw[y];have g:=ka y;unfold ye at g;obtain⟨s,hs⟩:=gX (Ac ps f);rw[hs]at g b p;obtain⟨a1,m1,rfl⟩:=r.form;obtain⟨a2,m2,rfl⟩:=t.form;obtain⟨n1,f1⟩:=gX ps.length;obtain⟨n2,f2⟩:=gX f.length;obtain⟨lo,l⟩:=gX s.lo;obtain⟨P,j⟩:=gX s.hi;unfold Zi at b;unfold ni at b p;simp only[f1,f2,l,j]at g b p ⊢;clear r t k1 k2 l1 l2 y hs f1 f2 l j;by_cases d:lo<P
 ·have e:decide (lo<P)=true:=by simpa using d
  rw[if_pos d]at g;rw[e]at b;obtain⟨k,R⟩:=gX ((Na s).2.num.sign);rw[R]at g;have Hk:=ka R;clear R e d;go_in;go_wp2_with(first|(go_at_call 58;refine cM (b.o _ eA) ?_;rintro e w3 ⟨rfl,i⟩;obtain⟨z,K⟩:=i.cells)|(go_at_call 59;refine cM (p.o _ eA) ?_;rintro e w4 ⟨r4,r5,rfl,aa,o,ab⟩;obtain⟨a4,m4,c4,s4,b4,n4,k4,rfl⟩:=aa.form;obtain⟨a5,m5,c5,s5,b5,n5,k5,rfl⟩:=o.form)|(go_at_call 93;(with_reducible refine(Ur _ _ _ (o.ext ?_)).mono ?_);exact eA;rintro e w6 ⟨rfl,ac⟩;rw[Hk.o]));go_ret;exact⟨by rw[<-g.o];rfl,eA⟩
 ·have e:decide (lo<P)=false:=by simpa using d
  rw[if_neg d]at g;rw[e]at b;clear e d;go_in;go_wp2_with(first|(go_at_call 58;refine cM (b.o _ eA) ?_;rintro e w3 ⟨rfl,i⟩;obtain⟨z,K⟩:=i.cells));go_ret;exact⟨by rw[<-g.o];rfl,eA⟩
end
section
open Go.RowKit Go.Shelf
attribute [local go_sem] Oper.semAt_some
def Ad(n:Int):List UInt8:=if n<0 then 45::Se n.natAbs else Se n.natAbs
def mg(q:Rat):List UInt8:=if q.den=1 then Ad q.num else Ad q.num++(47::Ad q.den)
def Ck(x z:Rat):List UInt8:=40::(mg x++(44::32::(mg z++[41])))
def JE:∀ k n ,n<k->n≠0->0<(Wa k n).length/\2 ^ (23*((Wa k n).length-1))<=n
 | 0,_,h,_=>by omega
 | k+1,n,h,f=>by
  rw[Wa,if_neg f,lA,List.length_singleton];refine⟨by omega,?_⟩;rw[Nat.add_sub_cancel];by_cases d:n/10000000=0
  ·rw[d,Xp];simp;omega
  ·obtain⟨e,b⟩:=JE k (n/10000000) oM d;obtain⟨L,g⟩:∃L,(Wa k (n/10000000)).length=L+1:=⟨_,(Nat.succ_pred_eq_of_pos e).symm⟩;rw[g]at b ⊢;rw[Nat.add_sub_cancel]at b;rw[Nat.mul_add,Nat.pow_add,show (2:Nat) ^ (23*1)=8388608 from rfl];have:n/10000000*8388608<=n:=oM;exact nT (Nat.mul_le_mul_right _ b) this
def Kx:∀ k n ,∀s∈Wa k n,s.length=7
 | 0,_,s,h=>by simp[Wa]at h
 | k+1,n,s,h=>by
  unfold Wa at h;split at h
  ·cases h
  ·rcases List.mem_append.1 h with h|h
   ·exact Kx k _ s h
   ·rw[List.mem_singleton.1 h];rfl
def Qu{n:Nat}(h:Lm Zb (n:Int)):(Se n).length<=20*Zb:=by
 have j:(Wa (n+1) n).length<=2*Zb:=by
  by_cases f:n=0
  ·rw[f,Xp];exact Nat.zero_le _
  ·obtain⟨i,g⟩:=JE (n+1) n oM f;have b:(n:Int)<B ^ Zb:=h.2;have e:(B:Int) ^ Zb=((2 ^ (24*Zb):Nat):Int):=by
    rw[Nat.pow_mul];unfold B;rw[Int.natCast_pow];rfl
   rw[e]at b;have d:n<2 ^ (24*Zb):=by exact_mod_cast b
   have o:23*((Wa (n+1) n).length-1)<24*Zb:=(Nat.pow_lt_pow_iff_right (by decide:1<2)).1 (Nat.lt_of_le_of_lt g d);unfold Zb at *;omega
 have k:=Zl (Kx (n+1) n);have l:(Lib.trimLeftB (Wa (n+1) n).flatten 48).length<=(Wa (n+1) n).flatten.length:=List.IsSuffix.length_le (List.dropWhile_suffix _);unfold Se;split
 ·unfold Zb;simp
 ·omega
def Nr{n}(h:Lm Zb n):(Ad n).length<=21*Zb:=by
 have:=Qu (n:=n.natAbs) h.abs;unfold Ad;split
 ·rw[List.length_cons];unfold Zb at *;omega
 ·omega
def UP{q}(h:Rb Zb q):(mg q).length<=43*Zb:=by
 have b:=Nr h.1;have d:=Nr h.2;unfold mg;split
 ·omega
 ·rw[lA,List.length_cons];unfold Zb at *;omega
def Sn(a b:List UInt8):(⟨a.toArray⟩:ByteArray)++(⟨b.toArray⟩:ByteArray)=⟨(a++b).toArray⟩:=by apply ByteArray.ext;rw[ByteArray.data_append];simp
def FD w v n(h:Id w v n)(f:Lm Zb n):Calls Tryz.prog 167 #[v] w fun e w'=>e=.returned (.string ⟨(Ad n).toArray⟩)/\Aa w w':=by
 obtain⟨a,m,c,s,rfl⟩:=h.form;have i:=ka (fun(W:V)(l:Aa w W)=>ZN W (I #[O a m c]) n.natAbs (h.dig.ext l) f.abs);have j:=h.sgn;unfold Ad;clear h;cases s with
 |true=>
  have g:n<0:=by simpa using j.symm
  rw[if_pos g];obtain⟨T,b⟩:=gX (Se n.natAbs);rw[b]at i ⊢;have d:T.length<=20*Zb:=by rw[<-b];exact Qu f.abs
  unfold Zb at d;clear j g b f;go_in;go_wp2_with((go_at_call 211;refine cM (i.o _ eA) ?_;rintro e o ⟨rfl,k⟩));go_ret;exact⟨by rw[show (⟨#[45]⟩:ByteArray)=⟨[45].toArray⟩from rfl,Sn];rfl,eA⟩
 |false=>
  have g:¬n<0:=by simpa using j.symm
  rw[if_neg g];obtain⟨T,b⟩:=gX (Se n.natAbs);rw[b]at i ⊢;have d:T.length<=20*Zb:=by rw[<-b];exact Qu f.abs
  unfold Zb at d;clear j g b f;go_in;go_wp2_with((go_at_call 211;refine cM (i.o _ eA) ?_;rintro e o ⟨rfl,k⟩));go_ret;exact⟨rfl,eA⟩
end
section
open Go.RowKit Go.Shelf Go.Sort Go.Lib
def Dc(p q:Pl):Int:=
 if qb (Da p)<=Ua (Da q)then 1
 else if qb (Da q)<=Ua (Da p)then 2
 else if ye (Da p) (La q)then 3
 else if ye (Da q) (La p)then 4
 else 5
def Gl(w:V)(c:List M)(p:Pl):Prop:=∃v vl vu,c=(De p v vl vu).toList/\Fa w v p.shape/\Fa w vl (Da p)/\Fa w vu (La p)
def Qd(w:V)(v:M)(p:Pl):Prop:=∃s vl vu,v=I (De p s vl vu)/\Fa w s p.shape/\Fa w vl (Da p)/\Fa w vu (La p)
def Qd.ext{w w' v p}(h:Qd w v p)(k:Aa w w'):Qd w' v p:=by obtain⟨s,g,i,b,d,e,f⟩:=h;exact⟨s,g,i,b,d.f k,e.f k,f.f k⟩
def Qd.keep{w w' v p}(h:Qd w v p)(k:Ia 43 w w'):Qd w' v p:=by obtain⟨s,g,i,b,d,e,f⟩:=h;exact⟨s,g,i,b,d.z k,e.z k,f.z k⟩
abbrev Ic(w:V)(v:M)(ps:List Pl):Prop:=Sl 128 12 Gl w v ps
def Gl.ext{w w' c p}(h:Gl w c p)(k:Aa w w'):Gl w' c p:=by obtain⟨s,g,i,b,d,e,f⟩:=h;exact⟨s,g,i,b,d.f k,e.f k,f.f k⟩
def Gl.keep{w w' c p}(h:Gl w c p)(k:Ia 43 w w'):Gl w' c p:=by obtain⟨s,g,i,b,d,e,f⟩:=h;exact⟨s,g,i,b,d.z k,e.z k,f.z k⟩
def Ic.f{w w' v ps}(h:Ic w v ps)(k:Aa w w'):Ic w' v ps:=Sl.ext h (fun _ _ h=>Gl.ext h k) k
def xq w v1 v2 p q(h1:Qd w v1 p)(h2:Qd w v2 q)(k1:Ca p=true)(k2:Ca q=true):Calls Tryz.prog 55 #[v1,v2] w fun e w'=>e=.returned (Z .u8 (Dc p q))/\Aa w w':=by
 obtain⟨s1,l1,u1,rfl,p1,R,p3⟩:=h1;obtain⟨s2,l2,u2,rfl,q1,q2,q3⟩:=h2;obtain⟨o1,o2⟩:=Ye k1;obtain⟨o3,o4⟩:=Ye k2;have HA:=ka (fun(W:V)(g:Aa w W)=>Vr W l1 (Da p) (R.f g) (List.length_pos_iff.2 o1.1));have HB:=ka (fun(W:V)(g:Aa w W)=>tl W l2 (Da q) (q2.f g) (List.length_pos_iff.2 o3.1));have HC:=ka (fun(W:V)(g:Aa w W)=>tl W l1 (Da p) (R.f g) (List.length_pos_iff.2 o1.1));have HD:=ka (fun(W:V)(g:Aa w W)=>Vr W l2 (Da q) (q2.f g) (List.length_pos_iff.2 o3.1));have HE:=ka (fun(W:V)(g:Aa w W)=>Ot W l1 u2 (Da p) (La q) (R.f g) (q3.f g) o1 o4);have HF:=ka (fun(W:V)(g:Aa w W)=>Ot W l2 u1 (Da q) (La p) (q2.f g) (p3.f g) o3 o2);obtain⟨av,ay,rfl⟩:=p1.form;obtain⟨aw,aA,rfl⟩:=q1.form;obtain⟨a1,c1,rfl⟩:=R.form;obtain⟨a2,c2,rfl⟩:=q2.form;obtain⟨aa,ac,rfl⟩:=p3.form;obtain⟨ab,ad,rfl⟩:=q3.form;obtain⟨k,hk⟩:=gX (Dc p q);have j:=ka hk;unfold Dc at j;rw[hk];obtain⟨n1,f1⟩:=gX ((Da p).length);obtain⟨n2,f2⟩:=gX ((Da q).length);obtain⟨m1,f3⟩:=gX ((La p).length);obtain⟨m2,f4⟩:=gX ((La q).length);obtain⟨j1,f5⟩:=gX p.shape.length;obtain⟨j2,f6⟩:=gX q.shape.length;obtain⟨rp,f7⟩:=gX (qb (Da p));obtain⟨lp,f8⟩:=gX (Ua (Da p));obtain⟨rq,f9⟩:=gX (qb (Da q));obtain⟨lq,x⟩:=gX (Ua (Da q));obtain⟨fa,y⟩:=gX (ye (Da p) (La q));obtain⟨fb,z⟩:=gX (ye (Da q) (La p));simp only[f1,f2,f3,f4,f5,f6,f7,f8,f9,x,y,z]at HA HB HC HD HE HF j ⊢;obtain⟨nm,sh,d,de,gx,gz,wy,ax,az,sk⟩:=p;obtain⟨au,aB,d',ap,aq,ar,aD,aj,ak,aC⟩:=q;clear hk p1 R p3 q1 q2 q3 o1 o2 o3 o4 k1 k2 f1 f2 f3 f4 f5 f6 f7 f8 f9 x y z;unfold De;dsimp only;go_in;go_wp2;refine Uc [(⟨w.heap.size,10,Y⟩,O a1 n1 c1),(⟨w.heap.size+1,10,Y⟩,O a2 n2 c2),(⟨w.heap.size,11,Y⟩,O aa m1 ac),(⟨w.heap.size+1,11,Y⟩,O ab m2 ad)] cA fun b=>?_;refine sN 0 ?_
 iterate 2 refine Bb ?_
 refine oN ?_;refine sN 3 ?_
 iterate 2 refine Bb ?_
 refine oN ?_;refine Fb (i:=2) (HA.o _ eA) ?_;rintro e w3 ⟨rfl,K⟩;refine⟨_,rfl,(cE b K),fun b=>?_⟩;have X3:Aa w w3:=eA;refine Fb (i:=5) (HB.o _ X3) ?_;rintro e w4 ⟨rfl,l⟩;refine⟨_,rfl,(cE b l),fun b=>?_⟩;have X4:Aa w w4:=X3.trans l;refine sN 6 ?_
 iterate 2 refine Bb ?_
 refine oN ?_;refine Sb ?_;obtain⟨al,am,an,ao,_⟩:=b;(try clear K);clear l X3;by_cases g1:rp<=lq
 ·go_wp2;go_ret;exact⟨by rw[<-j.o,if_pos g1];rfl,X4⟩
 rw[if_neg g1]at j;have aE:=X4.size;go_wp2;refine Uc [(⟨w.heap.size,10,Y⟩,O a1 n1 c1),(⟨w.heap.size+1,10,Y⟩,O a2 n2 c2),(⟨w.heap.size,11,Y⟩,O aa m1 ac),(⟨w.heap.size+1,11,Y⟩,O ab m2 ad)] cA fun b=>?_;refine sN 0 ?_
 iterate 2 refine Bb ?_
 refine oN ?_;refine sN 3 ?_
 iterate 2 refine Bb ?_
 refine oN ?_;refine Fb (i:=2) (HC.o _ eA) ?_;rintro e w5 ⟨rfl,P⟩;refine⟨_,rfl,(cE b P),fun b=>?_⟩;have X5:Aa w w5:=eA;refine Fb (i:=5) (HD.o _ X5) ?_;rintro e w6 ⟨rfl,n⟩;refine⟨_,rfl,(cE b n),fun b=>?_⟩;have X6:Aa w w6:=X5.trans n;refine sN 6 ?_
 iterate 2 refine Bb ?_
 refine oN ?_;refine Sb ?_;obtain⟨o,r,t,u,_⟩:=b;(try clear P);clear n X5;by_cases g2:rq<=lp
 ·go_wp2;go_ret;exact⟨by rw[<-j.o,if_pos g2];rfl,X6⟩
 rw[if_neg g2]at j;cases fa with
 |true=>
  go_wp2_with(go_at_call 131;refine cM (HE.o _ eA) ?_;rintro e w7 ⟨rfl,f⟩);go_ret;exact⟨by rw[<-j.o];rfl,eA⟩
 |false=>
  cases fb with
  |true=>
   go_wp2_with(first|(go_at_call 131;(with_reducible refine(HE.o _ ?_).mono ?_);exact eA;rintro e w7 ⟨rfl,f⟩;have ae:=f.d o;have af:=f.d r;have ag:=f.d t;have ah:=f.d u)|(go_at_call 131;(with_reducible refine(HF.o _ ?_).mono ?_);exact eA;rintro e w8 ⟨rfl,ai⟩));go_ret;exact⟨by rw[<-j.o];rfl,eA⟩
  |false=>
   go_wp2_with(first|(go_at_call 131;(with_reducible refine(HE.o _ ?_).mono ?_);exact eA;rintro e w7 ⟨rfl,f⟩;have ae:=f.d o;have af:=f.d r;have ag:=f.d t;have ah:=f.d u)|(go_at_call 131;(with_reducible refine(HF.o _ ?_).mono ?_);exact eA;rintro e w8 ⟨rfl,ai⟩));go_ret;exact⟨by rw[<-j.o];rfl,eA⟩
def Ic.at'{w a n c ps}(h:Ic w (O a n c) ps){i p}(t:ps[i]?=J p):∃b o s vl vu,a=J ⟨b,o,Y⟩/\b<w.heap.size/\Fa w s p.shape/\Fa w vl (Da p)/\Fa w vu (La p)/\∀(j:Nat) u,(De p s vl vu)[j]?=J u->w.cell? ⟨b,o+i*12+j,Y⟩=J u:=by obtain⟨b,o,d,rfl,k,x,⟨s,vl,vu,rfl,e,f,g⟩,l⟩:=Sl.at h t;exact⟨b,o,s,vl,vu,rfl,k,e,f,g,fun j u r=>l j u (by rw[Array.getElem?_toList];exact r)⟩
def uv(W:V)(b:Nat)(p:Pl)(s d e:M):Prop:=W.heap[b]?=J (N (De p s d e) 128 (0,0))/\Fa W s p.shape/\Fa W d (Da p)/\Fa W e (La p)
def oh(q p:Pl):Bool:=ve q p&&(Dc q p==5)
def Xg(b:ByteArray)(p:Pl):Bool:=p.name.toList==b.toList
def TJ w o p j b(h:Qd w o p)(r:w.cell? ⟨b,0,Y⟩=J (.string j)):Calls Tryz.prog 130 #[o,F (J ⟨b,0,Y⟩)] w fun e w'=>e=.returned (C (Xg j p))/\Aa w w':=by obtain⟨s1,l1,u1,rfl,k,l,n⟩:=h;obtain⟨t,u,rfl⟩:=k.form;obtain⟨K,W,rfl⟩:=l.form;obtain⟨x,y,rfl⟩:=n.form;obtain⟨n1,f⟩:=gX ((Da p).length);obtain⟨m1,g⟩:=gX ((La p).length);obtain⟨j1,i⟩:=gX p.shape.length;rw[f,g,i];obtain⟨np,sh,d,de,gx,gz,wy,P,R,sk⟩:=p;clear k l n f g i;have zq:b<w.heap.size:=World.block_lt_of_cell? w _ r;have z:b<w.heap.size+1:=oM;unfold De Xg;dsimp only;go_in;go_wp2;go_ret;exact⟨rfl,eA⟩
def KL w vp p q k s vl vu(h:Qd w vp p)(hq:uv w k q s vl vu)(k1:Ca p=true)(k2:Ca q=true):Calls Tryz.prog 132 #[vp,F (J ⟨k,0,Y⟩)] w fun e w'=>e=.returned (C (oh q p))/\Aa w w':=by
 obtain⟨b,n,R,q3⟩:=hq;have j:=ka (fun(W:V)(l:Aa w W)=>xq W (I (De q s vl vu)) vp q p ⟨_,_,_,rfl,n.f l,R.f l,q3.f l⟩ (h.ext l) k2 k1);obtain⟨s1,l1,u1,rfl,P,p2,p3⟩:=h;have f:=ka (fun(W:V)=>Du W q p s s1 (by obtain⟨a,c,h⟩:=n.form;exact⟨a,_,c,h⟩) (by obtain⟨a,c,h⟩:=P.form;exact⟨a,_,c,h⟩));obtain⟨ay,aA,rfl⟩:=P.form;obtain⟨a1,c1,rfl⟩:=p2.form;obtain⟨aC,aD,rfl⟩:=p3.form;obtain⟨aa,ab,rfl⟩:=n.form;obtain⟨a2,c2,rfl⟩:=R.form;obtain⟨ad,ae,rfl⟩:=q3.form;obtain⟨n1,f1⟩:=gX ((Da p).length);obtain⟨n2,f2⟩:=gX ((Da q).length);obtain⟨m1,f3⟩:=gX ((La p).length);obtain⟨m2,f4⟩:=gX ((La q).length);obtain⟨j1,f5⟩:=gX p.shape.length;obtain⟨j2,f6⟩:=gX q.shape.length;obtain⟨r,f7⟩:=gX (Dc q p);obtain⟨m,f8⟩:=gX (ve q p);unfold oh;simp only[f1,f2,f3,f4,f5,f6,f7,f8]at j f b ⊢;obtain⟨nm,sh,d,de,gx,gz,wy,ax,az,sk⟩:=p;obtain⟨K,aB,d',x,y,z,af,o,t,ac⟩:=q;unfold De at j b ⊢;unfold nc at f;dsimp only at j f b ⊢;have ai:=Ba b (i:=0) (u:=.string K) rfl;have aj:=Ba b (i:=1) (u:=O aa j2 ab) rfl;have ak:=Ba b (i:=2) (u:=Z X d') rfl;have al:=Ba b (i:=3) (u:=Z X x) rfl;have am:=Ba b (i:=4) (u:=Z X y) rfl;have an:=Ba b (i:=5) (u:=Z X z) rfl;have ao:=Ba b (i:=6) (u:=Z X af) rfl;have ap:=Ba b (i:=7) (u:=Z X o) rfl;have aq:=Ba b (i:=8) (u:=Z X t) rfl;have ar:=Ba b (i:=9) (u:=Z .u8 ac) rfl;have ag:=Ba b (i:=10) (u:=O a2 n2 c2) rfl;have ah:=Ba b (i:=11) (u:=O ad m2 ae) rfl;have zq:k<w.heap.size:=Jb b;have aE:k<w.heap.size+1:=oM;clear b P p2 p3 n R q3 k1 k2 f1 f2 f3 f4 f5 f6 f7 f8;cases m with
 |false=>
  go_in;go_wp2_with(go_at_call 54;refine cM (f.o _) ?_;rintro e w3 ⟨rfl,g⟩);go_ret;exact⟨rfl,eA⟩
 |true=>
  go_in;go_wp2_with(first|(go_at_call 54;refine cM (f.o _) ?_;rintro e w3 ⟨rfl,g⟩;obtain⟨au,av⟩:=g.cells)|(go_at_call 55;refine cM (j.o _ eA) ?_;rintro e w4 ⟨rfl,aw⟩));go_ret;exact⟨rfl,eA⟩
def TF(w:V)(f:Pl->Bool)(ps:List Pl)(g:Nat)(b:M)(W:V):Prop:=
 ∃i:Nat,i<=ps.length/\b=Z X i/\g=ps.length-i/\Aa w W/\∀j y,j<i->ps[j]?=J y->f y=false
def DM w v ps bq f(h:Ic w v ps)(hf:∀W,Aa w W->∀vp p,p∈ps->Qd W vp p->Calls Tryz.prog 130 #[vp,F (J ⟨bq,0,Y⟩)] W fun e w'=>e=.returned (C (f p))/\Aa W w'):Calls Tryz.prog 181 #[v,.func (.func 130) #[] #[F (J ⟨bq,0,Y⟩)]] w fun e w'=>e=.returned (Z X (Le f ps))/\Aa w w':=by
 obtain⟨a,c,rfl⟩:=h.form;obtain⟨n,hn⟩:=gX ps.length;rw[hn]at h ⊢;have t:=h.le;unfold maxLen at t;have au:n<=9223372036854775807:=oM;have k:=ka hn;have Hf:=ka hf;clear hn t hf;go_in;go_wp2;go_loopg [8] n (TF w f ps)
 case atStart=>exact⟨0,by omega,rfl,by rw[k.o];rfl,eR _,fun j y z=>by omega⟩
 case round =>
  obtain⟨i,hi,rfl,rfl,hx,l⟩:=hrel;rw[k.o]at hi;have g:=ka l;clear l;by_cases ab:i<n
  ·obtain⟨p,K⟩:∃q,ps[i]?=J q:=⟨ps[i]'(by rw[k.o];omega),by simp[k.o,ab]⟩;obtain⟨b,o,s,vl,vu,rfl,hb,R,d2,d3,d⟩:=(h.f hx).at' K;have r:=ka (fun W (x:Aa wr W)=>Hf.o W (hx.trans x) (I (De p s vl vu)) p (lM K) ⟨_,_,_,rfl,R.f x,d2.f x,d3.f x⟩);obtain⟨ad,ae,rfl⟩:=R.form;obtain⟨a1,c1,rfl⟩:=d2.form;obtain⟨af,ag,rfl⟩:=d3.form;obtain⟨n1,f1⟩:=gX ((Da p).length);obtain⟨m1,f3⟩:=gX ((La p).length);obtain⟨j1,f5⟩:=gX p.shape.length;obtain⟨fp,f7⟩:=gX (f p);rw[f1,f3,f5]at d r;rw[f7]at r;have F7:=ka f7;have P:=d 0 (.string p.name) rfl;have aj:=d 1 (O ad j1 ae) rfl;have ak:=d 2 (Z X p.depth) rfl;have al:=d 3 (Z X p.density) rfl;have am:=d 4 (Z X p.gx) rfl;have an:=d 5 (Z X p.gz) rfl;have ao:=d 6 (Z X p.way) rfl;have ap:=d 7 (Z X p.ax) rfl;have aq:=d 8 (Z X p.az) rfl;have ar:=d 9 (Z .u8 p.skin) rfl;have ah:=d 10 (O a1 n1 c1) rfl;have ai:=d 11 (O af m1 ag) rfl;simp only[Nat.add_zero]at P;have Hq:=ka K;unfold De at r;clear K d R d2 d3 f1 f3 f5 f7;cases fp with
   |true=>
    have e:Le f ps=(i:Int):=Gr Hq.o F7.o g.o;have E:=ka e;clear e;go_wp2_with(((go_at_call 130;refine cM (r.o _ eA) ?_;rintro e w1 ⟨rfl,ac⟩)));go_ret;exact⟨by rw[E.o];rfl,eA⟩
   |false=>
    go_wp2_with(((go_at_call 130;refine cM (r.o _ eA) ?_;rintro e w1 ⟨rfl,ac⟩)));go_roundg (n-(i+1))
    case measure=>have:=k.o;omega
    case rel =>
     refine⟨i+1,by have:=k.o;omega,by go_num,by rw[k.o],eA,fun j y z u=>?_⟩;by_cases aa:j=i
     ·subst aa;rw[Hq.o]at u;cases u;exact F7.o
     ·exact g.o j y oM u
  ·obtain rfl:i=n:=oM;have e:Le f ps = -1:=Lu (fun j y z u=>g.o j y (by rw[k.o]at z;exact z) u);have E:=ka e;clear e;go_wp2;go_ret;exact⟨by rw[E.o];rfl,hx⟩
def mO w v ps b f(h:Ic w v ps)(j:∀W,Aa w W->∀vp p,p∈ps->Qd W vp p->Calls Tryz.prog 130 #[vp,F (J ⟨b,0,Y⟩)] W fun e w'=>e=.returned (C (f p))/\Aa W w'):Calls Tryz.prog 129 #[v,.func (.func 130) #[] #[F (J ⟨b,0,Y⟩)]] w fun e w'=>e=.returned (C (ps.any f))/\Aa w w':=by
 rw[<-Aw];obtain⟨x,k⟩:=gX (Le f ps);have i:=fun W (g:Aa w W)=>DM W v ps b f (h.f g) (fun W' d=>j W' (g.trans d));obtain⟨a,n,c,rfl⟩:∃a n c,v=O a n c:=by obtain⟨a,c,h⟩:=h.form;exact⟨a,_,c,h⟩
 rw[k]at *;have l:=ka i;clear i k h j;go_in;go_wp2_with(((go_at_call 181;refine cM (l.o _ eA) ?_;rintro e r ⟨rfl,o⟩)));go_ret;exact⟨rfl,eA⟩
def QA w v ps bq f(h:Ic w v ps)(hf:∀W,Aa w W->∀vp p,p∈ps->Qd W vp p->Calls Tryz.prog 132 #[vp,F (J ⟨bq,0,Y⟩)] W fun e w'=>e=.returned (C (f p))/\Aa W w'):Calls Tryz.prog 181 #[v,.func (.func 132) #[] #[F (J ⟨bq,0,Y⟩)]] w fun e w'=>e=.returned (Z X (Le f ps))/\Aa w w':=by
 obtain⟨a,c,rfl⟩:=h.form;obtain⟨n,hn⟩:=gX ps.length;rw[hn]at h ⊢;have t:=h.le;unfold maxLen at t;have au:n<=9223372036854775807:=oM;have k:=ka hn;have Hf:=ka hf;clear hn t hf;go_in;go_wp2;go_loopg [8] n (TF w f ps)
 case atStart=>exact⟨0,by omega,rfl,by rw[k.o];rfl,eR _,fun j y z=>by omega⟩
 case round =>
  obtain⟨i,hi,rfl,rfl,hx,l⟩:=hrel;rw[k.o]at hi;have g:=ka l;clear l;by_cases ab:i<n
  ·obtain⟨p,K⟩:∃q,ps[i]?=J q:=⟨ps[i]'(by rw[k.o];omega),by simp[k.o,ab]⟩;obtain⟨b,o,s,vl,vu,rfl,hb,R,d2,d3,d⟩:=(h.f hx).at' K;have r:=ka (fun W (x:Aa wr W)=>Hf.o W (hx.trans x) (I (De p s vl vu)) p (lM K) ⟨_,_,_,rfl,R.f x,d2.f x,d3.f x⟩);obtain⟨ad,ae,rfl⟩:=R.form;obtain⟨a1,c1,rfl⟩:=d2.form;obtain⟨af,ag,rfl⟩:=d3.form;obtain⟨n1,f1⟩:=gX ((Da p).length);obtain⟨m1,f3⟩:=gX ((La p).length);obtain⟨j1,f5⟩:=gX p.shape.length;obtain⟨fp,f7⟩:=gX (f p);rw[f1,f3,f5]at d r;rw[f7]at r;have F7:=ka f7;have P:=d 0 (.string p.name) rfl;have aj:=d 1 (O ad j1 ae) rfl;have ak:=d 2 (Z X p.depth) rfl;have al:=d 3 (Z X p.density) rfl;have am:=d 4 (Z X p.gx) rfl;have an:=d 5 (Z X p.gz) rfl;have ao:=d 6 (Z X p.way) rfl;have ap:=d 7 (Z X p.ax) rfl;have aq:=d 8 (Z X p.az) rfl;have ar:=d 9 (Z .u8 p.skin) rfl;have ah:=d 10 (O a1 n1 c1) rfl;have ai:=d 11 (O af m1 ag) rfl;simp only[Nat.add_zero]at P;have Hq:=ka K;unfold De at r;clear K d R d2 d3 f1 f3 f5 f7;cases fp with
   |true=>
    have e:Le f ps=(i:Int):=Gr Hq.o F7.o g.o;have E:=ka e;clear e;go_wp2_with(((go_at_call 132;refine cM (r.o _ eA) ?_;rintro e w1 ⟨rfl,ac⟩)));go_ret;exact⟨by rw[E.o];rfl,eA⟩
   |false=>
    go_wp2_with(((go_at_call 132;refine cM (r.o _ eA) ?_;rintro e w1 ⟨rfl,ac⟩)));go_roundg (n-(i+1))
    case measure=>have:=k.o;omega
    case rel =>
     refine⟨i+1,by have:=k.o;omega,by go_num,by rw[k.o],eA,fun j y z u=>?_⟩;by_cases aa:j=i
     ·subst aa;rw[Hq.o]at u;cases u;exact F7.o
     ·exact g.o j y oM u
  ·obtain rfl:i=n:=oM;have e:Le f ps = -1:=Lu (fun j y z u=>g.o j y (by rw[k.o]at z;exact z) u);have E:=ka e;clear e;go_wp2;go_ret;exact⟨by rw[E.o];rfl,hx⟩
def DB w v ps b f(h:Ic w v ps)(j:∀W,Aa w W->∀vp p,p∈ps->Qd W vp p->Calls Tryz.prog 132 #[vp,F (J ⟨b,0,Y⟩)] W fun e w'=>e=.returned (C (f p))/\Aa W w'):Calls Tryz.prog 129 #[v,.func (.func 132) #[] #[F (J ⟨b,0,Y⟩)]] w fun e w'=>e=.returned (C (ps.any f))/\Aa w w':=by
 rw[<-Aw];obtain⟨x,k⟩:=gX (Le f ps);have i:=fun W (g:Aa w W)=>QA W v ps b f (h.f g) (fun W' d=>j W' (g.trans d));obtain⟨a,n,c,rfl⟩:∃a n c,v=O a n c:=by obtain⟨a,c,h⟩:=h.form;exact⟨a,_,c,h⟩
 rw[k]at *;have l:=ka i;clear i k h j;go_in;go_wp2_with(((go_at_call 181;refine cM (l.o _ eA) ?_;rintro e r ⟨rfl,o⟩)));go_ret;exact⟨rfl,eA⟩
end
section
open Go.RowKit Go.Shelf
attribute [local go_sem] Oper.semAt_some
def vF{x y}(d:0<=x)(e:0<y):Int.gcd y (x%y)=Int.gcd x y:=by obtain⟨a,rfl⟩:=Int.eq_ofNat_of_zero_le d;obtain⟨b,rfl⟩:=Int.eq_ofNat_of_zero_le (Int.le_of_lt e);rw[<-Int.natCast_emod,Int.gcd_natCast_natCast,Int.gcd_natCast_natCast,Nat.gcd_comm b,<-Nat.gcd_rec,Nat.gcd_comm]
def qE{x}(b:0<=x):(Int.gcd x 0:Int)=x:=by rw[Int.gcd_zero_right];omega
def vK x y:Int.gcd (x.natAbs:Int) (y.natAbs:Int)=Int.gcd x y:=by simp[Int.gcd]
def Iq(w:V)(G:Nat)(g:Nat)(W:V):Prop:=
 ∃x y:Int,0<=x/\0<=y/\Int.gcd x y=G/\g=y.toNat/\Lm Qc x/\Lm Qc y/\Aa w W/\NB W w.heap.size x/\NB W (w.heap.size+1) y/\
  W.heap[w.heap.size+1+1]?=J (N #[Z X 0,O Y 0 0] 66 (0,0))
def Iq.ext{w W W' G g}(h:Iq w G g W)(k:Aa W W'):Iq w G g W':=by obtain⟨x,y,d,e,f,i,j,h6,l,n,o,b⟩:=h;exact⟨x,y,d,e,f,i,j,h6,l.trans k,n.ext k,o.ext k,k.e b⟩
def IQ(d:V)(G:Nat)(t5 b:M)(W:V):Prop:=
 ∃u v:Int,t5=Z X u/\b=Z X v/\0<=u/\0<=v/\u<=10000000000000000/\v<=10000000000000000/\Int.gcd u v=G/\Aa d W
def tK w va vb na nb(ha:yd w va na)(hb:yd w vb nb)(aB:Lm Qc na)(aC:Lm Qc nb):Calls Tryz.prog 194 #[va,vb] w (Ih w (Int.gcd na nb:Int)):=by
 obtain⟨s,a,m,c,rfl,hs⟩:=ha.j;obtain⟨s',a',m',c',rfl,aO⟩:=hb.j;obtain⟨G,hG⟩:=gX (Int.gcd na nb);rw[hG];have HG:=ka hG;have aI:=ka aB;have aJ:=ka aC;clear hs aO hG aB aC;go_in;go_wp2;obtain⟨W0,d⟩:=gX (((w.alloc (N #[Z X s,O a m c] 66)).alloc (N #[Z X s',O a' m' c'] 66)).alloc (N #[Z X 0,O Y 0 0] 66));have X0:Aa w W0:=by rw[<-d];exact(((eR w).alloc _).alloc _).alloc _
 have aF:NB W0 w.heap.size na:=by rw[<-d];exact(NB.new (W0:=w) ha rfl).ext (((eR _).alloc _).alloc _)
 have aG:NB W0 (w.heap.size+1) nb:=by rw[<-d];exact(NB.new (W0:=w.alloc (N #[Z X s,O a m c] 66)) (hb.ext ((eR _).alloc _)) sM).ext ((eR _).alloc _)
 have an:W0.heap[w.heap.size+1+1]?=J (N #[Z X 0,O Y 0 0] 66 (0,0)):=by rw[<-d];exact Bc _ _ _ sM
 have p0:W0.cell? ⟨w.heap.size,0,Y⟩=J (Z X s):=by rw[<-d];clear d;go_simp
 have p1:W0.cell? ⟨w.heap.size,1,Y⟩=J (O a m c):=by rw[<-d];clear d;go_simp
 have q0:W0.cell? ⟨w.heap.size+1,0,Y⟩=J (Z X s'):=by rw[<-d];clear d;go_simp
 have q1:W0.cell? ⟨w.heap.size+1,1,Y⟩=J (O a' m' c'):=by rw[<-d];clear d;go_simp
 have f0:W0.frozen? ⟨w.heap.size,0,Y⟩=false:=by rw[<-d];clear d;go_simp
 have f1:W0.frozen? ⟨w.heap.size,1,Y⟩=false:=by rw[<-d];clear d;go_simp
 have f2:W0.frozen? ⟨w.heap.size+1,0,Y⟩=false:=by rw[<-d];clear d;go_simp
 have f3:W0.frozen? ⟨w.heap.size+1,1,Y⟩=false:=by rw[<-d];clear d;go_simp
 have z0:=Jb an;have z1:w.heap.size<W0.heap.size:=oM;have z2:w.heap.size+1<W0.heap.size:=oM;rw[d];clear d;refine Mh (fun i=>decide (3<i)) (Ea [(⟨w.heap.size,0,Y⟩,Z X s),(⟨w.heap.size,1,Y⟩,O a m c),(⟨w.heap.size+1,0,Y⟩,Z X s'),(⟨w.heap.size+1,1,Y⟩,O a' m' c')]) kM ?_ (fun f=>?_)
 ·exact cA
 refine lj (i:=0) ?_;refine lj (i:=2) ?_;refine Kc (i:=1) fun K k=>?_;go_simp;(with_reducible refine cM (MC _ (I #[Z X s,O a m c]) na (ha.ext X0.drew)) ?_);rintro e w1 ⟨r1,rfl,o,ab⟩;obtain⟨s1,a1,m1,c1,rfl,-⟩:=o.j;go_wp2;refine kO k (fun _=>cE f ab) (fun f=>?_);clear k K;replace f:=f rfl;refine Kc (i:=3) fun K k=>?_;go_simp;(with_reducible refine cM (MC _ (I #[Z X s',O a' m' c']) nb (hb.ext (X0.drew.trans ab))) ?_);rintro e w2 ⟨r2,rfl,n,ag⟩;obtain⟨s2,a2,m2,c2,rfl,-⟩:=n.j;go_wp2;refine kO k (fun _=>cE f ag) (fun f=>?_);clear k K;replace f:=f rfl;have X2:Aa W0 w2:=(eR W0).drew.trans (ab.trans ag);have y1:w.heap.size<w2.heap.size:=X2.lt z1;have y2:w.heap.size+1<w2.heap.size:=X2.lt z2;obtain⟨aK,aL⟩:=X2.cells;refine Kc (i:=4) fun K k=>?_;go_simp;refine kO k (fun h=>nomatch h) (fun f=>?_);clear k K;refine Kc (i:=5) fun K k=>?_;go_simp;refine kO k (fun h=>nomatch h) (fun f=>?_);clear k K;refine Lb kM ?_ _;have R:=aF.ext X2;have ai:=aG.ext X2;have aH:=X2.e an;have av:=X0.trans X2;go_wp2;go_loopg [7] ((nb.natAbs:Int).toNat) (fun g _ W=>Iq w G g W)
 case atStart =>
  refine⟨(na.natAbs:Int),(nb.natAbs:Int),by omega,by omega,by rw[vK,HG.o],rfl,aI.o.abs,aJ.o.abs,?_,?_,?_,?_⟩
  ·exact(((av.set (p:=⟨w.heap.size,0,Y⟩) sM _).set (p:=⟨w.heap.size,1,Y⟩) sM _).set (p:=⟨w.heap.size+1,0,Y⟩) sM _).set (p:=⟨w.heap.size+1,1,Y⟩) sM _
  ·exact((R.put (o.ext ag)).other (p:=⟨w.heap.size+1,0,Y⟩) sM ((ai.not.set _ _).set _ _) _).other (p:=⟨w.heap.size+1,1,Y⟩) sM (((ai.not.set _ _).set _ _).set _ _) _
  ·exact((ai.other (p:=⟨w.heap.size,0,Y⟩) sM R.not _).other (p:=⟨w.heap.size,1,Y⟩) sM (R.not.set _ _) _).put (n.keep (((Ia.refl _ w2).x R.not _).x (R.not.set _ _) _))
  ·rw[bS _ _ _ _ sM,bS _ _ _ _ sM,bS _ _ _ _ dO,bS _ _ _ _ dO];exact aH
 case round =>
  clear R ai aH av aK aL X2 y1 y2 o n ab ag aF aG an p0 p1 q0 q1 f0 f1 f2 f3 z0 z1 z2 X0 f HG;obtain⟨x,y,af,aQ,hG,rfl,aw,az,hx,al,am,l⟩:=hrel;have HG:=ka hG;have ap:=ka aw;have z:=ka az;have aq:=ka al;have ar:=ka am;obtain⟨sx,ax,mx,cx,aP,x0,x1,a8,a9,x2,ad⟩:=al.rd;obtain⟨sy,ay,my,cy,ae,y0,y1,ba,bb,y2,P⟩:=am.rd;have r0:=Ba l (i:=0) (u:=Z X 0) rfl;have r1:=Ba l (i:=1) (u:=O Y 0 0) rfl;have a4:=Ya l 0;have a6:=Ya l 1;have rz:=Jb l;have t:=ka l;clear hG aw az al am l aP;by_cases aR:y=0
  ·subst aR;obtain rfl:sy=0:=by rw[ae];rfl
   clear ae;go_wp2;refine bR (v:=I #[Z X sx,O ax mx cx]) (by simp[results,Tryz.results194,go_sem,rz,r0,r1]) rfl ⟨_,rfl,?_,eA⟩;rw[<-HG.o,qE af];exact ad.keep (uy t.o _ _)
  ·have r:0<y:=oM;obtain rfl:sy=1:=by rw[ae];exact Int.sign_eq_one_of_pos r
   clear ae;by_cases aY:mx<=4
   ·by_cases aZ:my<=4
    ·obtain⟨xs,xl,xi,xc,xv⟩:=ad.open;obtain⟨ys,yl,yi,yc,yv⟩:=P.open;have bx:x<10000000000000000:=by
      have h1:=(Uh Uj xc.1).2;have h2:=Qm (b:=C4) dM (show xs.length<=4 by omega);have h3:C4 ^ 4=10000000000000000:=dM;omega
     have bY:y<10000000000000000:=by
      have h1:=(Uh Uj yc.1).2;have h2:=Qm (b:=C4) dM (show ys.length<=4 by omega);have h3:C4 ^ 4=10000000000000000:=dM;omega
     clear xl xi xc xv yl yi yc yv;go_wp2;go_region_held3 (fun W=>W.cell? ⟨w.heap.size,0,Y⟩=J (Z X sx)/\W.cell? ⟨w.heap.size,1,Y⟩=J (O ax mx cx)/\W.cell? ⟨w.heap.size+1,0,Y⟩=J (Z X 1)/\W.cell? ⟨w.heap.size+1,1,Y⟩=J (O ay my cy)) ((repeat' (with_reducible refine And.intro ?_ ?_))<;>(first|(go_simp;done)|(refine ab.d ?_;go_simp;done))) (first|(go_at_call 141;(with_reducible refine(WE _ (I #[Z X sx,O ax mx cx]) x ?_ oM oM).mono ?_);(refine ad.ext ?_;exact(eR wr).drew);rintro e w8 ⟨rfl,ac⟩;obtain⟨aU,aW⟩:=oo ac;(have z8:w.heap.size<w8.heap.size:=ac.lt x2);(have aT:w.heap.size+1<w8.heap.size:=ac.lt y2))|(go_at_call 141;(with_reducible refine(WE _ (I #[Z X 1,O ay my cy]) y ?_ oM oM).mono ?_);(refine P.ext ?_;exact(eR wr).drew.trans ac);rintro e w9 ⟨rfl,ah⟩;obtain⟨aV,aX⟩:=oo ah;(have z9:w.heap.size<w9.heap.size:=ah.lt z8);(have bc:w.heap.size+1<w9.heap.size:=ah.lt aT)))
     all_goals go_wp2
     have X9:Aa wr w9:=(eR wr).drew.trans (ac.trans ah);have aa:=X9.e t.o;obtain⟨wo,rfl⟩:∃wo:V,wo=wr:=⟨_,rfl⟩;go_loopw [5,6] (IQ w9 G) (fun _ t6 _=>(intOf t6).toNat)
     case atStart=>exact⟨x,y,rfl,rfl,af,aQ,by omega,by omega,HG.o,eR _⟩
     case round =>
      obtain⟨u,v,rfl,rfl,u0,v0,u1,v1,hG,Xi⟩:=hrel;have ao:=ka hG;clear hG;by_cases hv:v=0
      ·subst hv;(have e:u=(G:Int):=by rw[<-ao.o,qE u0]);have t0:=Ba (Xi.e aa) (i:=0) (u:=Z X 0) rfl;have t1:=Ba (Xi.e aa) (i:=1) (u:=O Y 0 0) rfl;have a7:=Ya (Xi.e aa) 0;have Pb:=Ya (Xi.e aa) 1;have tz:=Jb (Xi.e aa);have XF:Aa w wr:=hx.trans (X9.trans Xi);have E:=ka e;clear e;go_wp2_with(go_at_call 96;(with_reducible refine(Su _ u oM oM).mono ?_);rintro e w5 ⟨r5,rfl,aD,j⟩;obtain⟨s5,a5,m5,c5,rfl,-⟩:=aD.j;obtain⟨ak,aA⟩:=j.cells);refine bR (v:=I #[Z X s5,O a5 m5 c5]) (by simp[results,Tryz.results194,go_sem,ak,tz,t0,t1]) rfl ⟨_,rfl,?_,eA⟩;rw[<-E.o];exact aD.keep (uy (j.e (Xi.e aa)) _ _)
      ·(have a0:(v != 0)=true:=by simpa using hv);have aE:0<v:=oM;obtain⟨rm,aM⟩:=gX (Int.tmod u v);(have aj:rm=u%v:=by rw[<-aM,Int.tmod_eq_emod_of_nonneg u0]);have k1:=Int.emod_lt_of_pos u aE;have k2:=Int.emod_nonneg u (show v≠0 by omega);have r9:0<=rm:=oM;have r8:rm<v:=oM;have au:=ka aj;(have a3:(v==0)=false:=by simpa using hv);clear aj k1 k2;go_wp2;go_quiet (fail);go_wp2;go_roundw
       case rel=>exact⟨v,rm,rfl,rfl,by omega,r9,v1,by omega,by rw[au.o,vF u0 aE,ao.o],eA⟩
       case measure=>simp[intOf];omega
    ·have h4:¬(my:Int)<=4:=oM;have h5:(mx:Int)<=4:=oM;go_wp2_with(go_at_call 142;(with_reducible refine(rF _ (I #[Z X sx,O ax mx cx]) (I #[Z X 1,O ay my cy]) x y ad P ap.o z.o oM).mono ?_);rintro e w5 ⟨r1,r2,rfl,o,n,j⟩;obtain⟨s1,a1,m1,c1,rfl,-⟩:=o.j;obtain⟨s2,a2,m2,c2,rfl,-⟩:=n.j;obtain⟨ak,aA⟩:=j.cells;(have z5:w.heap.size<w5.heap.size:=j.lt x2);(have aS:w.heap.size+1<w5.heap.size:=j.lt y2));refine Mh (fun i=>decide (2<i)) (Ea [(⟨w.heap.size+1,0,Y⟩,Z X 1),(⟨w.heap.size+1,1,Y⟩,O ay my cy),(⟨w5.heap.size+1,0,Y⟩,Z X s2),(⟨w5.heap.size+1,1,Y⟩,O a2 m2 c2)]) kM ?_ (fun f=>?_)
     ·exact cA
     refine sN 0 ?_
     (iterate 2 refine Wh ?_);refine oN ?_;refine Kc (i:=2) fun K k=>?_;go_simp;refine kO k (fun _=>?_) (fun f=>?_)
     ·exact cA
     clear k K;replace f:=f rfl;refine Kc (i:=3) fun K k=>?_;go_simp;refine kO k (fun h=>nomatch h) (fun f=>?_);clear k K;refine Lb kM ?_ _;go_wp2;go_roundg ((x%y).toNat)
     case measure=>have:=Int.emod_lt_of_pos x r;have:=Int.emod_nonneg x (show y≠0 by omega);omega
     case rel =>
      have k1:=Int.emod_lt_of_pos x r;have k2:=Int.emod_nonneg x (show y≠0 by omega);have nx:=aq.o.ext j;have ny:=ar.o.ext j;refine Iq.ext ?_ (((eR _).alloc _).alloc _).drew;refine⟨y,x%y,by omega,k2,by rw[vF af r,HG.o],rfl,z.o,?_,?_,?_,?_,?_⟩
      ·have:=z.o;unfold Lm at *;omega
      ·exact((((hx.trans j).set (p:=⟨w.heap.size,0,Y⟩) sM _).set (p:=⟨w.heap.size,1,Y⟩) sM _).set (p:=⟨w.heap.size+1,0,Y⟩) sM _).set (p:=⟨w.heap.size+1,1,Y⟩) sM _
      ·exact((nx.put (P.ext j)).other (p:=⟨w.heap.size+1,0,Y⟩) sM ((ny.not.set _ _).set _ _) _).other (p:=⟨w.heap.size+1,1,Y⟩) sM (((ny.not.set _ _).set _ _).set _ _) _
      ·refine((ny.other (p:=⟨w.heap.size,0,Y⟩) sM nx.not _).other (p:=⟨w.heap.size,1,Y⟩) sM (nx.not.set _ _) _).put (n.keep (((Ia.refl _ w5).x nx.not _).x (nx.not.set _ _) _))
      ·rw[bS _ _ _ _ sM,bS _ _ _ _ sM,bS _ _ _ _ dO,bS _ _ _ _ dO];exact j.e t.o
   ·have h5:¬(mx:Int)<=4:=oM;go_wp2_with(go_at_call 142;(with_reducible refine(rF _ (I #[Z X sx,O ax mx cx]) (I #[Z X 1,O ay my cy]) x y ad P ap.o z.o oM).mono ?_);rintro e w5 ⟨r1,r2,rfl,o,n,j⟩;obtain⟨s1,a1,m1,c1,rfl,-⟩:=o.j;obtain⟨s2,a2,m2,c2,rfl,-⟩:=n.j;obtain⟨ak,aA⟩:=j.cells;(have z5:w.heap.size<w5.heap.size:=j.lt x2);(have aS:w.heap.size+1<w5.heap.size:=j.lt y2));refine Mh (fun i=>decide (2<i)) (Ea [(⟨w.heap.size+1,0,Y⟩,Z X 1),(⟨w.heap.size+1,1,Y⟩,O ay my cy),(⟨w5.heap.size+1,0,Y⟩,Z X s2),(⟨w5.heap.size+1,1,Y⟩,O a2 m2 c2)]) kM ?_ (fun f=>?_)
    ·exact cA
    refine sN 0 ?_
    (iterate 2 refine Wh ?_);refine oN ?_;refine Kc (i:=2) fun K k=>?_;go_simp;refine kO k (fun _=>?_) (fun f=>?_)
    ·exact cA
    clear k K;replace f:=f rfl;refine Kc (i:=3) fun K k=>?_;go_simp;refine kO k (fun h=>nomatch h) (fun f=>?_);clear k K;refine Lb kM ?_ _;go_wp2;go_roundg ((x%y).toNat)
    case measure=>have:=Int.emod_lt_of_pos x r;have:=Int.emod_nonneg x (show y≠0 by omega);omega
    case rel =>
     have k1:=Int.emod_lt_of_pos x r;have k2:=Int.emod_nonneg x (show y≠0 by omega);have nx:=aq.o.ext j;have ny:=ar.o.ext j;refine Iq.ext ?_ (((eR _).alloc _).alloc _).drew;refine⟨y,x%y,by omega,k2,by rw[vF af r,HG.o],rfl,z.o,?_,?_,?_,?_,?_⟩
     ·have:=z.o;unfold Lm at *;omega
     ·exact((((hx.trans j).set (p:=⟨w.heap.size,0,Y⟩) sM _).set (p:=⟨w.heap.size,1,Y⟩) sM _).set (p:=⟨w.heap.size+1,0,Y⟩) sM _).set (p:=⟨w.heap.size+1,1,Y⟩) sM _
     ·exact((nx.put (P.ext j)).other (p:=⟨w.heap.size+1,0,Y⟩) sM ((ny.not.set _ _).set _ _) _).other (p:=⟨w.heap.size+1,1,Y⟩) sM (((ny.not.set _ _).set _ _).set _ _) _
     ·refine((ny.other (p:=⟨w.heap.size,0,Y⟩) sM nx.not _).other (p:=⟨w.heap.size,1,Y⟩) sM (nx.not.set _ _) _).put (n.keep (((Ia.refl _ w5).x nx.not _).x (nx.not.set _ _) _))
     ·rw[bS _ _ _ _ sM,bS _ _ _ _ sM,bS _ _ _ _ dO,bS _ _ _ _ dO];exact j.e t.o
def Rw w v q(h:Sa w v q)(g:Rb Zb q):Calls Tryz.prog 97 #[v] w fun e w'=>e=.returned (.string ⟨(mg q).toArray⟩)/\Aa w w':=by
 obtain⟨a,m,c,s,a2,m2,c2,rfl⟩:=h.form;have j:=ka (fun(W:V)(p:Aa w W)=>Zj W (I #[O a2 m2 c2]) _ (h.rest.ext p));have z:=ka (fun(W:V)(p:Aa w W)=>FD W (I #[O a m c,C s]) q.num (h.top.ext p) g.1);have R:=ka (fun(W:V)(p:Aa w W)=>Wn W _ q (h.ext p) (g.mono dM));have y:=ka (fun(W:V)(v:M)(hv:Id W v (q.den:Int))=>FD W v (q.den:Int) hv g.2);have l1:=Nr g.1;have l2:=Nr g.2;unfold mg;obtain⟨T1,n⟩:=gX (Ad q.num);obtain⟨T2,o⟩:=gX (Ad (q.den:Int));rw[n]at z l1 ⊢;rw[o]at y l2 ⊢;unfold Zb at l1 l2;obtain⟨d,hd⟩:=gX q.den;rw[hd]at j R y ⊢;clear n o hd h g;by_cases l:d=1
 ·have k:(((d:Nat):Int)-1==0)=true:=by simp[l]
  rw[k]at j;rw[if_pos l];clear k l;go_in;go_wp2_with(first|(go_at_call 166;refine cM (j.o _ eA) ?_;rintro e w1 ⟨rfl,f⟩;obtain⟨K,P⟩:=f.cells)|(go_at_call 167;refine cM (z.o _ eA) ?_;rintro e w2 ⟨rfl,t⟩));go_ret;exact⟨rfl,eA⟩
 ·have k:(((d:Nat):Int)-1==0)=false:=by simp;omega
  rw[k]at j;rw[if_neg l];clear k l;go_in;have g1:¬9223372036854775807<T1.length+1:=oM;have g2:¬9223372036854775807<T1.length+1+T2.length:=oM;go_upto_region 3 with (first|(go_at_call 166;refine cM (j.o _ eA) ?_;rintro e w1 ⟨rfl,f⟩;obtain⟨K,P⟩:=f.cells));refine Uc [(⟨w.heap.size,0,Y⟩,O a m c),(⟨w.heap.size,1,Y⟩,C s),(⟨w.heap.size,2,Y⟩,O a2 m2 c2)] cA fun b=>?_;refine sN 0 ?_
  iterate 2 refine Bb ?_
  refine oN ?_;refine Ib (i:=4) ?_;refine Fb (i:=2) (z.o _ eA) ?_;rintro e w2 ⟨rfl,t⟩;refine⟨_,rfl,(cE b t),fun b=>?_⟩;have X2:Aa w w2:=eA;refine Ib (i:=3) ?_;refine Fb (i:=5) (R.o _ X2) ?_;rintro e w5 ⟨r5,rfl,r,u⟩;obtain⟨a5,m5,c5,s5,rfl⟩:=r.form;refine⟨_,rfl,(cE b u),fun b=>?_⟩;have X5:Aa w w5:=X2.trans u;refine Fb (i:=6) (y.o _ _ r) ?_;rintro e w6 ⟨rfl,x⟩;refine⟨_,rfl,(cE b x),fun b=>?_⟩;refine sN 7 ?_
  iterate 2 refine Bb ?_
  refine oN ?_;refine Sb ?_;go_wp2;go_ret;exact⟨by rw[show (⟨#[47]⟩:ByteArray)=⟨[47].toArray⟩from rfl,Sn,Sn];simp,X5.trans x⟩
def JD w R vz x z(u:Sa w R x)(y:Sa w vz z)(d:Rb Zb x)(f:Rb Zb z):∀v,(∃a m c s a2 m2 c2 a' m' c' s' a2' m2' c2',R=I #[O a m c,C s,O a2 m2 c2]/\vz=I #[O a' m' c',C s',O a2' m2' c2']/\v=I #[O a m c,C s,O a2 m2 c2,O a' m' c',C s',O a2' m2' c2']) ->Calls Tryz.prog 48 #[v] w fun e w'=>e=.returned (.string ⟨(Ck x z).toArray⟩)/\Aa w w':=by
 rintro v ⟨a,m,c,s,a2,m2,c2,a',m',c',s',a2',m2',c2',rfl,rfl,rfl⟩;have HX:=ka (fun(W:V)(n:Aa w W)=>Rw W _ x (u.ext n) d);have p:=ka (fun(W:V)(n:Aa w W)=>Rw W _ z (y.ext n) f);have K:=UP d;have P:=UP f;unfold Ck;obtain⟨l,g⟩:=gX (mg x);obtain⟨r,j⟩:=gX (mg z);rw[g]at HX K ⊢;rw[j]at p P ⊢;unfold Zb at K P;clear g j u y d f;have g1:¬9223372036854775807<1+l.length:=oM;have g2:¬9223372036854775807<1+l.length+2:=oM;have g3:¬9223372036854775807<1+l.length+2+r.length:=oM;have g4:¬9223372036854775807<1+l.length+2+r.length+1:=oM;go_in;go_wp2;refine Uc [(⟨w.heap.size,0,Y⟩,O a m c),(⟨w.heap.size,1,Y⟩,C s),(⟨w.heap.size,2,Y⟩,O a2 m2 c2),(⟨w.heap.size,3,Y⟩,O a' m' c'),(⟨w.heap.size,4,Y⟩,C s'),(⟨w.heap.size,5,Y⟩,O a2' m2' c2')] cA fun b=>?_;refine sN 0 ?_
 iterate 2 refine Bb ?_
 refine oN ?_;refine sN 5 ?_
 iterate 2 refine Bb ?_
 refine oN ?_;refine Fb (i:=2) (HX.o _ eA) ?_;rintro e w2 ⟨rfl,o⟩;refine⟨_,rfl,(cE b o),fun b=>?_⟩;have t:Aa w w2:=eA;refine sN 3 ?_
 iterate 2 refine Bb ?_
 refine oN ?_;refine Fb (i:=7) (p.o _ t) ?_;rintro e w7 ⟨rfl,k⟩;refine⟨_,rfl,(cE b k),fun b=>?_⟩;refine sN 8 ?_
 iterate 3 refine Bb ?_
 refine oN ?_;refine Sb ?_;go_wp2;go_ret;exact⟨by rw[show (⟨#[40]⟩:ByteArray)=⟨[40].toArray⟩from rfl,show (⟨#[44,32]⟩:ByteArray)=⟨[44,32].toArray⟩from rfl,show (⟨#[41]⟩:ByteArray)=⟨[41].toArray⟩from rfl,Sn,Sn,Sn,Sn];simp,t.trans k⟩
def Gb(w:V)(v:M)(q:Rat):Prop:=
 ∃s a m c s2 a2 m2 c2,v=I #[Z X s,O a m c,Z X s2,O a2 m2 c2]/\yd w (I #[Z X s,O a m c]) q.num/\(yd w (I #[Z X s2,O a2 m2 c2]) (q.den:Int)\/(s2=0/\q.den=1))
section
variable {w w':V} {v:M} {q:Rat} {s s2:Int} {a a2:Option Addr} {m c m2 c2:Nat}
def Gb.ext(h:Gb w v q)(k:Aa w w'):Gb w' v q:=by obtain⟨s,a,m,c,s2,a2,m2,c2,rfl,b,d⟩:=h;exact⟨s,a,m,c,s2,a2,m2,c2,rfl,b.ext k,d.imp (·.ext k) id⟩
def Gb.keep(h:Gb w v q)(k:Ia 3 w w'):Gb w' v q:=by obtain⟨s,a,m,c,s2,a2,m2,c2,rfl,b,d⟩:=h;exact⟨s,a,m,c,s2,a2,m2,c2,rfl,b.keep k,d.imp (·.keep k) id⟩
def Gb.form(h:Gb w v q):∃s a m c s2 a2 m2 c2,v=I #[Z X s,O a m c,Z X s2,O a2 m2 c2]:=by obtain⟨s,a,m,c,s2,a2,m2,c2,rfl,b,d⟩:=h;exact⟨_,_,_,_,_,_,_,_,rfl⟩
def Gb.top(h:Gb w (I #[Z X s,O a m c,Z X s2,O a2 m2 c2]) q):yd w (I #[Z X s,O a m c]) q.num:=by obtain⟨s,a,m,c,s2,a2,m2,c2,e,b,d⟩:=h;cases e;exact b
def Gb.bot(h:Gb w (I #[Z X s,O a m c,Z X s2,O a2 m2 c2]) q):yd w (I #[Z X s2,O a2 m2 c2]) (q.den:Int)\/(s2=0/\q.den=1):=by obtain⟨s,a,m,c,s2,a2,m2,c2,e,d,b⟩:=h;cases e;exact b
def Gb.mk(b:yd w (I #[Z X s,O a m c]) q.num)(d:yd w (I #[Z X s2,O a2 m2 c2]) (q.den:Int)):Gb w (I #[Z X s,O a m c,Z X s2,O a2 m2 c2]) q:=
 ⟨_,_,_,_,_,_,_,_,rfl,b,.inl d⟩
def Gb.zero w:Gb w (I #[Z X 0,O Y 0 0,Z X 0,O Y 0 0]) 0:=⟨_,_,_,_,_,_,_,_,rfl,yd.nil w,.inr ⟨rfl,rfl⟩⟩
end
def Lc(w:V)(q:Rat)(e:Ending)(w':V):Prop:=∃r,e=.returned r/\Gb w' r q/\Aa w w'
def Xc:Nat:=100000
def zI(q:Rat):(q.den:Int).sign=1:=Int.sign_eq_one_of_pos (Zf q)
def Dl w v q(h:Gb w v q):Calls Tryz.prog 81 #[v] w (Ih w (q.den:Int)):=by
 obtain⟨s,a,m,c,s2,a2,m2,c2,rfl⟩:=h.form;rcases h.bot with b|⟨rfl,b⟩
 ·obtain rfl:s2=1:=by rw[b.sgn,zI]
  go_in;go_wp2;exact bR (v:=I #[Z X 1,O a2 m2 c2]) (by simp[results,Tryz.results81,go_sem]) rfl ⟨_,rfl,b.ext eA,eA⟩
 ·rw[b];clear b;go_in;go_wp2_with(go_at_call 96;(with_reducible refine(Su _ 1 dM dM).mono ?_);rintro e t ⟨r,rfl,d,i⟩;obtain⟨p,k,o,l,rfl,-⟩:=d.j;obtain⟨⟨g,n⟩,j,f⟩:=Yb w i);exact bR (v:=I #[Z X p,O k o l]) (by simp[results,Tryz.results81,go_sem,g,f]) rfl ⟨_,rfl,d.keep kA,eA⟩
def zE w v q(h:Gb w v q):Calls Tryz.prog 140 #[v] w fun e w'=>e=.returned (Z X q.num.sign)/\Aa w w':=by obtain⟨s,a,m,c,s2,a2,m2,c2,rfl⟩:=h.form;have b:=h.top.sgn;have d:=ka b;clear b;go_in;go_wp2;go_ret;exact⟨Oo (Kl d.o),eA⟩
def FJ w n(r:-9223372036854775808<=n)(t:n<=9223372036854775807):Calls Tryz.prog 34 #[Z X n] w (Lc w (n:Rat)):=by go_in;go_wp2_with(first|(go_at_call 96;(with_reducible refine(Su _ n r t).mono ?_);rintro e R ⟨K,rfl,b,l⟩;obtain⟨z,o,y,p,rfl,-⟩:=b.j;obtain⟨⟨j,u⟩,g⟩:=oe w l)|(go_at_call 96;(with_reducible refine(Su _ 1 dM dM).mono ?_);rintro e W ⟨P,rfl,d,f⟩;obtain⟨s2,a2,m2,c2,rfl,-⟩:=d.j;obtain⟨⟨k,x⟩,i⟩:=oe w f));exact bR (v:=I #[Z X z,O o y p,Z X s2,O a2 m2 c2]) (by simp[results,Tryz.results34,go_sem,j,k,g,i]) rfl ⟨_,rfl,Gb.keep (Gb.mk (q:=(n:Rat)) (b.ext f) d) kA,eA⟩
def qR(w:V)(q:Rat)(W:V):Prop:=
 ∃n d:Int,0<d/\Rat.divInt n d=q/\Lm Qc n/\Lm Qc d/\NB W w.heap.size n/\NB W (w.heap.size+1) d/\Aa w W/\
  W.heap[w.heap.size+1+1]?=J (N #[Z X 0,O Y 0 0,Z X 0,O Y 0 0] 68 (0,0))
def pR(w:V)(q:Rat)(W:V):Prop:=
 NB W w.heap.size q.num/\NB W (w.heap.size+1) (q.den:Int)/\Aa w W/\
  W.heap[w.heap.size+1+1]?=J (N #[Z X 0,O Y 0 0,Z X 0,O Y 0 0] 68 (0,0))
def xr{W b b' n g}(h:NB W b n)(f:NB W b' g)(d:b≠b') u v:NB ((W.setCell ⟨b',0,Y⟩ u).setCell ⟨b',1,Y⟩ v) b n:=
 (h.other (p:=⟨b',0,Y⟩) (fun e=>d e.symm) f.not _).other (p:=⟨b',1,Y⟩) (fun e=>d e.symm) (f.not.set _ _) _
def rn{W:V}{b b' o}(h:W.heap[b]?=J o)(d:b≠b') u v:((W.setCell ⟨b',0,Y⟩ u).setCell ⟨b',1,Y⟩ v).heap[b]?=J o:=by rw[bS _ _ _ _ d,bS _ _ _ _ d];exact h
def Jn{w W b}(h:Aa w W)(d:w.heap.size<=b) u v:Aa w ((W.setCell ⟨b,0,Y⟩ u).setCell ⟨b,1,Y⟩ v):=(h.set (p:=⟨b,0,Y⟩) d _).set (p:=⟨b,1,Y⟩) d _
def sF w va vb na nb(ha:yd w va na)(hb:yd w vb nb)(aW:Lm Qc na)(aX:Lm Qc nb)(hd:nb≠0):Calls Tryz.prog 146 #[va,vb] w (Lc w (Rat.divInt na nb)):=by
 obtain⟨s,a,m,c,rfl,hs⟩:=ha.j;obtain⟨s',a',m',c',rfl,a5⟩:=hb.j;obtain⟨q,hq⟩:=gX (Rat.divInt na nb);rw[hq];have Hq:=ka hq;have ao:=ka aW;have ap:=ka aX;have av:=ka a5;clear hs a5 hq aW aX;go_in;go_upto_if 8 with fail;obtain⟨W0,b⟩:=gX (((w.alloc (N #[Z X s,O a m c] 66)).alloc (N #[Z X s',O a' m' c'] 66)).alloc (N #[Z X 0,O Y 0 0,Z X 0,O Y 0 0] 68));have X0:Aa w W0:=by rw[<-b];exact(((eR w).alloc _).alloc _).alloc _
 have aC:NB W0 w.heap.size na:=by rw[<-b];exact(NB.new (W0:=w) ha rfl).ext (((eR _).alloc _).alloc _)
 have aD:NB W0 (w.heap.size+1) nb:=by rw[<-b];exact(NB.new (W0:=w.alloc (N #[Z X s,O a m c] 66)) (hb.ext ((eR _).alloc _)) sM).ext ((eR _).alloc _)
 have aj:W0.heap[w.heap.size+1+1]?=J (N #[Z X 0,O Y 0 0,Z X 0,O Y 0 0] 68 (0,0)):=by rw[<-b];exact Bc _ _ _ sM
 have p0:W0.cell? ⟨w.heap.size,0,Y⟩=J (Z X s):=by rw[<-b];clear b;go_simp
 have p1:W0.cell? ⟨w.heap.size,1,Y⟩=J (O a m c):=by rw[<-b];clear b;go_simp
 have q0:W0.cell? ⟨w.heap.size+1,0,Y⟩=J (Z X s'):=by rw[<-b];clear b;go_simp
 have q1:W0.cell? ⟨w.heap.size+1,1,Y⟩=J (O a' m' c'):=by rw[<-b];clear b;go_simp
 have f0:W0.frozen? ⟨w.heap.size,0,Y⟩=false:=by rw[<-b];clear b;go_simp
 have f1:W0.frozen? ⟨w.heap.size,1,Y⟩=false:=by rw[<-b];clear b;go_simp
 have f2:W0.frozen? ⟨w.heap.size+1,0,Y⟩=false:=by rw[<-b];clear b;go_simp
 have f3:W0.frozen? ⟨w.heap.size+1,1,Y⟩=false:=by rw[<-b];clear b;go_simp
 have z0:=Jb aj;have z1:w.heap.size<W0.heap.size:=oM;have z2:w.heap.size+1<W0.heap.size:=oM;rw[b];clear b;go_cut [5] (fun _ W=>qR w q W)
 case first =>
  by_cases bA:nb<0
  ·have bj:s'<0:=by
    have:=av.o;rcases Ee nb with ⟨e,h⟩|⟨e,h⟩|⟨e,h⟩<;>omega
   go_wp2;refine Mh (fun i=>decide (3<i)) (Ea [(⟨w.heap.size,0,Y⟩,Z X s),(⟨w.heap.size,1,Y⟩,O a m c),(⟨w.heap.size+1,0,Y⟩,Z X s'),(⟨w.heap.size+1,1,Y⟩,O a' m' c')]) kM ?_ (fun o=>?_)
   ·exact cA
   refine lj (i:=0) ?_;refine lj (i:=2) ?_;refine Kc (i:=1) fun K R=>?_;go_simp;(with_reducible refine cM (xF _ (I #[Z X s,O a m c]) na (ha.ext X0.drew)) ?_);rintro e w1 ⟨r1,rfl,P,ag⟩;obtain⟨s1,a1,m1,c1,rfl,-⟩:=P.j;go_wp2;refine kO R (fun _=>cE o ag) (fun o=>?_);clear R K;replace o:=o rfl;refine Kc (i:=3) fun K R=>?_;go_simp;(with_reducible refine cM (xF _ (I #[Z X s',O a' m' c']) nb (hb.ext (X0.drew.trans ag))) ?_);rintro e w2 ⟨r2,rfl,a0,az⟩;obtain⟨s2,a2,m2,c2,rfl,-⟩:=a0.j;go_wp2;refine kO R (fun _=>cE o az) (fun o=>?_);clear R K;replace o:=o rfl;have X2:Aa W0 w2:=(eR W0).drew.trans (ag.trans az);have y1:w.heap.size<w2.heap.size:=X2.lt z1;have y2:w.heap.size+1<w2.heap.size:=X2.lt z2;obtain⟨bs,bv⟩:=X2.cells;refine Kc (i:=4) fun K R=>?_;go_simp;refine kO R (fun h=>nomatch h) (fun o=>?_);clear R K;refine Kc (i:=5) fun K R=>?_;go_simp;refine kO R (fun h=>nomatch h) (fun o=>?_);clear R K;refine Lb kM ?_ _;go_wp2;go_meet;have ae:=aC.ext X2;have a7:=aD.ext X2;refine⟨-na,-nb,by omega,by rw[Rat.neg_divInt_neg];exact Hq.o,ao.o.neg,ap.o.neg,?_,?_,?_,?_⟩
   ·exact xr (ae.put (P.ext az)) (xr a7 ae oM _ _) oM _ _
   ·exact(xr a7 ae oM _ _).put (a0.keep (((Ia.refl _ w2).x ae.not _).x (ae.not.set _ _) _))
   ·exact Jn (Jn (X0.trans X2) oM _ _) oM _ _
   ·exact rn (rn (X2.e aj) oM _ _) oM _ _
  ·have bj:¬s'<0:=by
    have:=av.o;rcases Ee nb with ⟨e,h⟩|⟨e,h⟩|⟨e,h⟩<;>omega
   go_wp2;go_meet;exact⟨na,nb,by omega,Hq.o,ao.o,ap.o,aC,aD,X0,aj⟩
 case rest =>
  clear aC aD aj p0 p1 q0 q1 f0 f1 f2 f3 z0 z1 z2 X0 Hq ao ap av ha hb hd;obtain⟨n,d,hd,hq,aZ,aY,hn,z,hx,f⟩:=hcut;obtain⟨r1,r2,r3,r4,r5⟩:=jC (n:=n) (d:=d) oM;unfold rg at r1 r2 r3 r4 r5;rw[if_neg oM]at r1 r2 r3 r4 r5;rw[hq]at r4 r5;obtain⟨g,hg⟩:=gX ((Int.gcd n d:Int));rw[hg]at r1 r2 r3 r4 r5;have bz:0<g:=oM;have aw:Lm Qc g:=by
   have:g<=d:=Int.le_of_dvd hd r3;unfold Lm at *;omega
  have Hg:=ka hg;have R4:=ka r4;have R5:=ka r5;have aM:=ka aZ;have aJ:=ka aY;have aK:=ka aw;have aL:Ta (Lm kc g):=ka (aw.mono dM);have aI:Ta (Lm kc 1):=ka (RE dM);have Hn:=ka hn;have aO:=ka z;have al:=ka f;obtain⟨sx,ax,mx,cx,bk,x0,x1,aE,aF,x2,aA⟩:=hn.rd;obtain⟨sy,ay,my,cy,bl,y0,y1,aG,aH,y2,aB⟩:=z.rd;clear hg r1 r2 r3 r4 r5 aZ aY aw hn z f bk bl;go_upto_region 4 with (go_at_call 194;(with_reducible refine(tK _ (I #[Z X sx,O ax mx cx]) (I #[Z X sy,O ay my cy]) n d aA aB aM.o aJ.o).mono ?_);rw[Hg.o];rintro e w3 ⟨r3,rfl,t,ah⟩;obtain⟨s3,a3,m3,c3,rfl,-⟩:=t.j;obtain⟨bc,bg⟩:=ah.cells);obtain⟨r,p⟩:=gX (w3.alloc (N #[Z X s3,O a3 m3 c3] 66));have x:Aa wc r:=by rw[<-p];exact ah.alloc _
  have n3:NB r w.heap.size n:=Hn.o.ext x;have d3:NB r (w.heap.size+1) d:=aO.o.ext x;have g3:NB r w3.heap.size g:=by rw[<-p];exact NB.new t rfl
  have e0:=x.d x0;have e1:=x.d x1;have e2:=x.d y0;have e3:=x.d y1;have aP:r.frozen? ⟨w.heap.size,0,Y⟩=false:=(x.cells.2 _ _ x2).trans aE;have aQ:r.frozen? ⟨w.heap.size,1,Y⟩=false:=(x.cells.2 _ _ x2).trans aF;have aR:r.frozen? ⟨w.heap.size+1,0,Y⟩=false:=(x.cells.2 _ _ y2).trans aG;have aS:r.frozen? ⟨w.heap.size+1,1,Y⟩=false:=(x.cells.2 _ _ y2).trans aH;have e4:r.cell? ⟨w3.heap.size,0,Y⟩=J (Z X s3):=by rw[<-p];clear p;go_simp
  have e5:r.cell? ⟨w3.heap.size,1,Y⟩=J (O a3 m3 c3):=by rw[<-p];clear p;go_simp
  have ab:yd r (I #[Z X s3,O a3 m3 c3]) g:=by rw[<-p];exact t.ext ((eR _).alloc _)
  have zg:w3.heap.size<r.heap.size:=by rw[<-p];simp
  have zl:wc.heap.size<=w3.heap.size:=ah.size;have zr:=Jb al.o;have zw:w.heap.size<r.heap.size:=oM;have ak:w.heap.size+1<r.heap.size:=oM;obtain⟨gg,aV⟩:=gX w3.heap.size;rw[p];rw[aV]at g3 e4 e5 zg zl ⊢;obtain⟨T,hT⟩:=gX ((g-1).sign);have aU:0<T ↔ 1<g:=by
   rw[<-hT];rcases Ee (g-1)with ⟨e,h⟩|⟨e,h⟩|⟨e,h⟩<;>omega
  have HT:=ka hT;clear p aV bc bg t ah x0 x1 aE aF x2 y0 y1 aG aH y2 hT;go_cut [19] (fun bm W=>bm=C (decide (1<g))/\Aa r W)
  case first =>
   go_region_held3 (fun W=>W.cell? ⟨gg,0,Y⟩=J (Z X s3)/\W.cell? ⟨gg,1,Y⟩=J (O a3 m3 c3)) ((repeat' (with_reducible refine And.intro ?_ ?_))<;>(first|(go_simp;done)|(refine ag.d ?_;go_simp;done))) (first|(go_at_call 96;(with_reducible refine(Su _ 1 dM dM).mono ?_);rintro e w4 ⟨r4,rfl,ac,ai⟩;obtain⟨s4,a4,m4,c4,rfl,-⟩:=ac.j;obtain⟨bt,bw⟩:=oo ai;(have z4:gg<w4.heap.size:=ai.lt zg))|(go_at_call 79;(with_reducible refine(Ft _ (I #[Z X s3,O a3 m3 c3]) (I #[Z X s4,O a4 m4 c4]) g 1 ?_ ac aL.o aI.o).mono ?_);(refine ab.ext ?_;exact(eR r).drew.trans ai);rw[HT.o];rintro e y ⟨rfl,j⟩;obtain⟨be,bh⟩:=oo j;(have z5:gg<y.heap.size:=j.lt z4)))
   all_goals go_wp2
   go_meet;exact⟨by simp[aU],(eR r).drew.trans (ai.trans j)⟩
  case rest =>
   obtain⟨rfl,l⟩:=hcut;have n4:=n3.ext l;have d4:=d3.ext l;have g4:=g3.ext l;have b0:=l.d e0;have b1:=l.d e1;have b2:=l.d e2;have b3:=l.d e3;have b4:=l.d e4;have b5:=l.d e5;have u0:w.heap.size<wc.heap.size:=l.lt zw;have u1:w.heap.size+1<wc.heap.size:=l.lt ak;have u2:gg<wc.heap.size:=l.lt zg;have am:=aA.ext (x.trans l);have an:=aB.ext (x.trans l);have aa:=ab.ext l;have XW:Aa w wc:=hx.trans (x.trans l);have ac:=(x.trans l).e al.o;have au:=ka ac;have bb:Ta (∀(y:V)(k:Aa wc y)(u v:M),yd ((y.setCell ⟨w.heap.size,0,Y⟩ u).setCell ⟨w.heap.size,1,Y⟩ v) (I #[Z X sy,O ay my cy]) d):=ka fun y k u v =>
    (an.ext k).keep (((Ia.refl _ y).x (n4.ext k).not _).x ((n4.ext k).not.set _ _) _)
   have ba:Ta (∀(y:V)(k:Aa wc y)(u v:M),yd ((y.setCell ⟨w.heap.size,0,Y⟩ u).setCell ⟨w.heap.size,1,Y⟩ v) (I #[Z X s3,O a3 m3 c3]) g):=ka fun y k u v =>
    (aa.ext k).keep (((Ia.refl _ y).x (n4.ext k).not _).x ((n4.ext k).not.set _ _) _)
   have ar:=ka n4;have aq:=ka d4;have bn:wc.frozen? ⟨w.heap.size,0,Y⟩=false:=(l.cells.2 _ _ zw).trans aP;have bo:wc.frozen? ⟨w.heap.size,1,Y⟩=false:=(l.cells.2 _ _ zw).trans aQ;have bp:wc.frozen? ⟨w.heap.size+1,0,Y⟩=false:=(l.cells.2 _ _ ak).trans aR;have bq:wc.frozen? ⟨w.heap.size+1,1,Y⟩=false:=(l.cells.2 _ _ ak).trans aS;have ug:w.heap.size+1+1<gg:=oM;have bC:¬gg=w.heap.size:=oM;have bD:¬w.heap.size=gg:=oM;clear n3 d3 g3 n4 d4 ac e0 e1 e2 e3 e4 e5 aP aQ aR aS x l aA aB ab Hn aO zw ak zg zl zr g4 aU;go_upto_if 19 with fail;go_cut [20] (fun _ W=>pR w q W)
   case first =>
    by_cases aT:1<g
    ·(have kg:decide (1<g)=true:=by simpa using aT);go_wp2_with(first|(go_at_call 142;(with_reducible refine(rF _ (I #[Z X sx,O ax mx cx]) (I #[Z X s3,O a3 m3 c3]) n g am aa aM.o aK.o oM).mono ?_);rintro e y ⟨r1,r2,rfl,P,-,j⟩;rw[R4.o]at P;obtain⟨s1,a1,m1,c1,rfl,-⟩:=P.j;obtain⟨be,bh⟩:=j.cells;(have z5:w.heap.size<y.heap.size:=j.lt u0);(have bI:w.heap.size+1<y.heap.size:=j.lt u1);(have br:gg<y.heap.size:=j.lt u2))|(go_at_call 142;(with_reducible refine(rF _ (I #[Z X sy,O ay my cy]) (I #[Z X s3,O a3 m3 c3]) d g (bb.o _ j _ _) (ba.o _ j _ _) aJ.o aK.o oM).mono ?_);rintro e w6 ⟨r3,r4,rfl,t,-,ad⟩;rw[R5.o]at t;obtain⟨s6,a6,m6,c6,rfl,-⟩:=t.j;obtain⟨bu,bx⟩:=ad.cells));go_meet;have k1:=ar.o.ext j;have k2:=xr (aq.o.ext j) k1 (show w.heap.size+1≠w.heap.size by omega) (Z X s1) (O a1 m1 c1);have k3:=(k1.put P).ext ad;have k4:=k2.ext ad;refine⟨xr k3 k4 oM _ _,k4.put t,Jn ((Jn (XW.trans j) oM _ _).trans ad) oM _ _,rn (ad.e (rn (j.e au.o) oM _ _)) oM _ _⟩
    ·(have kg:decide (1<g)=false:=by simpa using aT);obtain rfl:g=1:=oM;go_wp2;go_meet;have e1:=R4.o;have e2:=R5.o;rw[Int.ediv_one]at e1 e2;exact⟨e1▸ar.o,e2▸aq.o,XW,au.o⟩
   case rest =>
    clear u0 u1 u2 bn bo bp bq b0 b1 b2 b3 b4 b5 XW au ar aq am an aa;obtain⟨hn,z,bB,f⟩:=hcut;obtain⟨s8,a8,m8,c8,-,x0,x1,aE,aF,x2,bi⟩:=hn.rd;obtain⟨s9,a9,m9,c9,-,y0,y1,aG,aH,y2,bf⟩:=z.rd;have r0:=Ba f (i:=0) (u:=Z X 0) rfl;have r1:=Ba f (i:=1) (u:=O Y 0 0) rfl;have r2:=Ba f (i:=2) (u:=Z X 0) rfl;have r3:=Ba f (i:=3) (u:=O Y 0 0) rfl;have bE:=Ya f 0;have bF:=Ya f 1;have bG:=Ya f 2;have bH:=Ya f 3;have rz:=Jb f;(have af:td 3 wc (w.heap.size+1+1):=by intro cs fr e;rw[f]at e;cases e);clear hn z f;go_wp2;refine bR (v:=I #[Z X s8,O a8 m8 c8,Z X s9,O a9 m9 c9]) (by simp[results,Tryz.results146,go_sem,rz,r0,r1,r2,r3]) rfl ⟨_,rfl,Gb.keep (Gb.mk bi bf) ?_,eA⟩;exact((((Ia.refl _ wc).x af _).x (af.set _ _) _).x ((af.set _ _).set _ _) _).x (((af.set _ _).set _ _).set _ _) _
end
section
open Go.RowKit Go.Shelf Go.Sort Go.Lib
def On{g}(h:Nb g=true):Wb g:=by unfold Nb at h;rw[Bool.and_eq_true,List.all_eq_true]at h;obtain⟨d,l⟩:=h;unfold Ra at d;simp at d;refine⟨fun e=>by subst e;simp at d,fun p n=>?_,by omega⟩;obtain⟨i,k,rfl⟩:=List.mem_iff_getElem.1 n;have b:=l i (List.mem_range.2 k);unfold Ng at b;rw[gD,gE k,Option.getD_some]at b;simp only[Bool.and_eq_true,Bool.not_eq_true']at b;have f:=b.1;have j:=b.2.1;unfold Kd at f j;simp at f j;constructor<;>(unfold Bd;omega)
def Pe(g:LP)(p:Pl):Bool:=decide (Ua g<=Ua (Da p))&&decide (qb (Da p)<=qb g)
def Ce(g:LP)(ps:List Pl)(p:Pl):Bool:=ye (Da p) g&&!ps.any (oh p)
def Ja{T k α P w v}{xs:List α}(h:Sl T k P w v xs):∃a n c,v=O a n c:=by obtain⟨a,c,h⟩:=h.form;exact⟨a,_,c,h⟩
def Bu w l i ps b(t:∃a n c,l=O a n c)(h:Ic w i ps):Calls Tryz.prog 52 #[I #[l,i],.string b] w fun e w'=>e=.returned (C (ps.any (Xg b)))/\Aa w w':=by obtain⟨R,gn,gc,rfl⟩:=t;have g:=fun W (r:Aa w W) (d:Nat) (z:W.cell? ⟨d,0,Y⟩=J (.string b))=>mO W i ps d (Xg b) (h.f r) (fun W' f P p _ y=>TJ W' P p b d y (f.d z));obtain⟨a,n,c,rfl⟩:=Ja h;obtain⟨x,k⟩:=gX (ps.any (Xg b));simp only[k]at g ⊢;have o:=ka g;clear g k h;have u:∀(j:Fn)(first cap:Array M)(w:V),(Instr.makeFunc j first cap).run Tryz.prog w = .ok (.func j first cap) w:=fun _ _ _ _=>rfl;go_in;go_wp2_with(((go_at_call 129;refine cM (o.o _ eA _ ?_) ?_;(focus(go_simp;done));rintro e w1 ⟨rfl,K⟩)));go_ret;exact⟨rfl,eA⟩
def lE w P R vp g ps p(r:Fa w P g)(h:Ic w R ps)(hp:Qd w vp p)(k0:Wb g)(k1:∀q∈ps,Ca q=true)(x:Ca p=true):Calls Tryz.prog 53 #[I #[P,R],vp] w fun e w'=>e=.returned (C (Ce g ps p))/\Aa w w':=by
 obtain⟨s1,y,u1,rfl,z,k,K⟩:=hp;have j:=ka (fun W (f:Aa w W) (o:Nat) (hq:W.heap[o]?=J (N (De p s1 y u1) 128 (0,0)))=>DB W R ps o (oh p) (h.f f) (fun W' b vq q u t=>KL W' vq q p o s1 y u1 t ⟨b.e hq,z.f (f.trans b),k.f (f.trans b),K.f (f.trans b)⟩ (k1 q u) x));have l:=ka (fun W (f:Aa w W)=>Ot W y P (Da p) g (k.f f) (r.f f) (Ye x).1 k0);obtain⟨ga,gn,gc,rfl⟩:=Ja r;obtain⟨a,n,c,rfl⟩:=Ja h;obtain⟨ae,ag,af,rfl⟩:=Ja z;obtain⟨a1,n1,c1,rfl⟩:=Ja k;obtain⟨ah,aj,ai,rfl⟩:=Ja K;obtain⟨fr,f1⟩:=gX (ye (Da p) g);obtain⟨cl,f2⟩:=gX (ps.any (oh p));unfold Ce;rw[f1]at l ⊢;rw[f2]at j ⊢;obtain⟨nm,sh,d,de,gx,gz,wy,ax,az,sk⟩:=p;clear f1 f2 r h z k K k0 k1 x;unfold De at j ⊢;dsimp only at j ⊢;have ac:∀(fn:Fn)(first cap:Array M)(w:V),(Instr.makeFunc fn first cap).run Tryz.prog w = .ok (.func fn first cap) w:=fun _ _ _ _=>rfl;cases fr with
 |false=>
  go_in;go_wp2_with(go_at_call 131;refine cM (l.o _ eA) ?_;rintro e w1 ⟨rfl,i⟩);go_ret;exact⟨rfl,eA⟩
 |true=>
  go_in;go_wp2_with(first|(go_at_call 131;refine cM (l.o _ eA) ?_;rintro e w1 ⟨rfl,i⟩;obtain⟨aa,ab⟩:=i.cells)|(go_at_call 129;refine cM (j.o _ eA _ ?_) ?_;(exact i.e (Bc _ _ _ sM));rintro e w2 ⟨rfl,ad⟩));go_ret;exact⟨rfl,eA⟩
def BD w u vs vp g p(r:Fa w u g)(h:∃a n c,vs=O a n c)(hp:Qd w vp p)(K:Wb g)(k2:Ca p=true):Calls Tryz.prog 51 #[I #[u,vs],vp] w fun e w'=>e=.returned (C (Pe g p))/\Aa w w':=by
 obtain⟨s1,l1,u1,rfl,p1,t,p3⟩:=hp;have P:=(Ye k2).1;have HA:=ka (fun(W:V)(f:Aa w W)=>tl W u g (r.f f) (List.length_pos_iff.2 K.1));have HB:=ka (fun(W:V)(f:Aa w W)=>tl W l1 (Da p) (t.f f) (List.length_pos_iff.2 P.1));have HC:=ka (fun(W:V)(f:Aa w W)=>Vr W l1 (Da p) (t.f f) (List.length_pos_iff.2 P.1));have HD:=ka (fun(W:V)(f:Aa w W)=>Vr W u g (r.f f) (List.length_pos_iff.2 K.1));obtain⟨ga,gn,gc,rfl⟩:=Ja r;obtain⟨a,n,c,rfl⟩:=h;obtain⟨aa,ac,ab,rfl⟩:=Ja p1;obtain⟨a1,n1,c1,rfl⟩:=Ja t;obtain⟨ad,af,ae,rfl⟩:=Ja p3;unfold Pe;obtain⟨y,f1⟩:=gX (Ua g);obtain⟨gr,f2⟩:=gX (qb g);obtain⟨R,f3⟩:=gX (Ua (Da p));obtain⟨pr,f4⟩:=gX (qb (Da p));simp only[f1,f2,f3,f4]at HA HB HC HD ⊢;obtain⟨nm,sh,d,de,gx,gz,wy,ax,az,sk⟩:=p;clear f1 f2 f3 f4 r p1 t p3 K k2 P;unfold De;dsimp only;go_in;go_wp2;refine Uc [(⟨w.heap.size,0,Y⟩,O ga gn gc),(⟨w.heap.size+1,10,Y⟩,O a1 n1 c1)] cA fun b=>?_;refine sN 0 ?_
 iterate 2 refine Bb ?_
 refine oN ?_;refine sN 3 ?_
 iterate 2 refine Bb ?_
 refine oN ?_;refine Fb (i:=2) (HA.o _ eA) ?_;rintro e w3 ⟨rfl,z⟩;refine⟨_,rfl,(cE b z),fun b=>?_⟩;have X3:Aa w w3:=eA;refine Fb (i:=5) (HB.o _ X3) ?_;rintro e w4 ⟨rfl,j⟩;refine⟨_,rfl,(cE b j),fun b=>?_⟩;have x:=X3.trans j;refine sN 6 ?_
 iterate 2 refine Bb ?_
 refine oN ?_;by_cases g1:y<=R
 ·have o:decide (y<=R)=true:=by simpa using g1
  rw[o];refine sN 8 ?_
  iterate 2 refine Bb ?_
  refine oN ?_;refine sN 11 ?_
  iterate 2 refine Bb ?_
  refine oN ?_;refine Fb (i:=10) (HC.o _ x) ?_;rintro e w5 ⟨rfl,k⟩;refine⟨_,rfl,(cE b k),fun b=>?_⟩;have X5:=x.trans k;refine Fb (i:=13) (HD.o _ X5) ?_;rintro e w6 ⟨rfl,l⟩;refine⟨_,rfl,(cE b l),fun b=>?_⟩;have X6:=X5.trans l;refine sN 14 ?_
  iterate 3 refine Bb ?_
  refine oN ?_;refine Sb ?_;go_wp2;go_ret;exact⟨by rw[o];rfl,X6⟩
 ·have o:decide (y<=R)=false:=by simpa using g1
  rw[o];refine sN 8 ?_
  iterate 2 refine Nf ?_
  refine oN ?_;refine sN 11 ?_
  iterate 2 refine Nf ?_
  refine oN ?_;refine pd (i:=10) ?_;refine sN 13 ?_
  iterate 2 refine Nf ?_
  iterate 2 refine Bb ?_
  refine oN ?_;refine Sb ?_;go_wp2;go_ret;exact⟨by simp,x⟩
def qh(g:LP)(done:List Pl)(p:Pl):Int:=if Ca p then (if Pe g p then (if done.any (Xg p.name)then 7 else 0)else 2)else 2
def me(g:LP):List Pl->List Pl->Int
 | _,[]=>0
 | done,p::r=>if qh g done p=0 then me g (done++[p]) r else qh g done p
def Mg(g:LP):List Pl->List Pl->Int
 | _,[]=>0
 | done,p::r=>if Ce g done p then Mg g (done++[p]) r else 12
def Rc(g:LP)(ps:List Pl):Int:=if Nb g then (if 120<ps.length then 5 else if me g [] ps=0 then Mg g [] ps else me g [] ps)else 2
def Nu{α:Type}{ps:List α}{i p}(h:ps[i]?=J p):ps.drop i=p::ps.drop (i+1):=by obtain⟨b,rfl⟩:=lS.1 h;exact List.drop_eq_getElem_cons b
def Mp{g}{ps:List Pl}{i p}(h:ps[i]?=J p)(b:qh g (ps.take i) p=0):me g (ps.take i) (ps.drop i)=me g (ps.take (i+1)) (ps.drop (i+1)):=by rw[Nu h,Uf _ _ _ h,me,if_pos b]
def Vt{g}{ps:List Pl}{i p}(h:ps[i]?=J p)(b:qh g (ps.take i) p≠0):me g (ps.take i) (ps.drop i)=qh g (ps.take i) p:=by rw[Nu h,me,if_neg b]
def FO{g}{ps:List Pl}{i p}(h:ps[i]?=J p)(b:Ce g (ps.take i) p=true):Mg g (ps.take i) (ps.drop i)=Mg g (ps.take (i+1)) (ps.drop (i+1)):=by rw[Nu h,Uf _ _ _ h,Mg,if_pos b]
def EO{g}{ps:List Pl}{i p}(h:ps[i]?=J p)(b:Ce g (ps.take i) p=false):Mg g (ps.take i) (ps.drop i)=12:=by rw[Nu h,Mg,b];rfl
def qe(w:V)(base:Nat)(v:M)(ps:List Pl):Prop:=∃cs,Ka 128 12 w base v cs/\cs.length=ps.length/\∀(i:Nat) c p,cs[i]?=J c->ps[i]?=J p->Gl w c p
def qe.las{w base v ps}(h:qe w base v ps):Ic w v ps:=by obtain⟨f,b,d,e⟩:=h;exact b.sl d e
def qe.nil w base:qe w base (O Y 0 0) []:=⟨[],Ka.nil _ _ _ _,rfl,fun i c p b=>by simp at b⟩
def qe.i{w base v ps}(h:qe w base v ps):∃a n c,v=O a n c:=by obtain⟨d,b,_⟩:=h;exact b.i
def qe.setOther{w base v ps q}(h:qe w base v ps)(k:v.ownBlock≠J q.block)(j:td 43 w q.block) u:qe (w.setCell q u) base v ps:=by obtain⟨b,d,e,f⟩:=h;exact⟨b,d.setOther k u,e,fun i c p g l=>(f i c p g l).keep ((Ia.refl _ w).x j u)⟩
def qe.lt{w base v ps}(h:qe w base v ps):∀j,v.ownBlock=J j->base<=j/\j<w.heap.size:=by obtain⟨d,b,_⟩:=h;exact b.lt
def qe.app{wr f base k ps cs d p}(h:Ka 128 12 f base k (cs++[d]))(g:cs.length=ps.length)(j:∀(i:Nat) c p,cs[i]?=J c->ps[i]?=J p->Gl wr c p)(o:Ia 43 wr f)(l:Gl f d p):qe f base k (ps++[p]):=by
 refine⟨cs++[d],h,by simp[g],fun i c x b e=>?_⟩;by_cases n:i<cs.length
 ·rw[List.getElem?_append_left n]at b;rw[List.getElem?_append_left oM]at e;exact(j i c x b e).keep o
 ·rw[List.getElem?_append_right oM]at b e;have r:=(lS.1 b).1;simp at r;have:i-cs.length=0:=oM;rw[this]at b;rw[show i-ps.length=0 by omega]at e;simp at b e;subst b e;exact l
def kI:(Tryz.prog.info? 128).map (fun i=>(i.zero,i.size,i.bytes))=J (J (I ms),12,152):=kM
def jq(W:V) cs T:∀ j  u,[cs.toList].flatten[j]?=J u->(W.alloc (N cs T)).cell? ((⟨W.heap.size,0,Y⟩:Addr).add j)=J u:=by
 intro j u b;rw[List.flatten_cons,List.flatten_nil,List.append_nil,Array.getElem?_toList]at b;have e:=Ba (aN W (N cs T)) b;unfold Addr.add;split
 ·subst j;exact e
 ·rw[show (⟨W.heap.size,0,Y⟩:Addr).off+j=j by simp];exact e
def Dn(w:V)(c:List M)(p:Pl):Prop:=∃v,c=(nc p v).toList/\Fa w v p.shape/\0<=p.skin
def Dn.ext{w w' c p}(h:Dn w c p)(k:Aa w w'):Dn w' c p:=by obtain⟨v,b,d,e⟩:=h;exact⟨v,b,d.f k,e⟩
abbrev Gf(w:V)(v:M)(ps:List Pl):Prop:=Sl 47 10 Dn w v ps
def Gf.f{w w' v ps}(h:Gf w v ps)(k:Aa w w'):Gf w' v ps:=Sl.ext h (fun _ _ h=>Dn.ext h k) k
def Gf.at'{w a n c ps}(h:Gf w (O a n c) ps){i p}(r:ps[i]?=J p):∃b o v,a=J ⟨b,o,Y⟩/\b<w.heap.size/\Fa w v p.shape/\0<=p.skin/\∀(j:Nat) u,(nc p v)[j]?=J u->w.cell? ⟨b,o+i*10+j,Y⟩=J u:=by obtain⟨b,o,d,rfl,g,t,⟨v,rfl,e,f⟩,k⟩:=Sl.at h r;exact⟨b,o,v,rfl,g,e,f,fun j u l=>k j u (by rw[Array.getElem?_toList];exact l)⟩
def Xr:M:=I #[O Y 0 0,O Y 0 0]
def vo(w:V)(b:M)(g:LP)(ps:List Pl)(e:Ending)(w':V):Prop:=
 (Rc g ps≠0/\e=.returned (H #[Xr,Z X (Rc g ps)])/\Aa w w')\/(Rc g ps=0/\∃vs,e=.returned (H #[I #[b,vs],Z X 0])/\Ic w' vs ps/\Aa w w')
def pl(w:V)(d:Nat)(b e f:M)(W:V):Prop:=
 W.heap[w.heap.size]?=J (N #[b,e] 41 (0,0))/\W.heap[w.heap.size+1]?=J (N #[O Y 0 0,O Y 0 0] 124 (0,0))/\W.heap[d]?=J (N #[b,f] 124 (0,0))
def pl.ext{w W W' b d e f}(h:pl w b d e f W)(k:Aa W W'):pl w b d e f W':=⟨k.e h.1,k.e h.2.1,k.e h.2.2⟩
def pl.below{w W W' b d e f}(h:pl w b d e f W)(k:Below (b+1) W W')(l:w.heap.size+1<b):pl w b d e f W':=by obtain⟨g,i,j⟩:=h;exact⟨(k.block _ oM).trans g,(k.block _ oM).trans i,(k.block _ oM).trans j⟩
def pl.put{w W b d e j}(h:pl w b d e j W)(k:w.heap.size+1<b) v:pl w b d e v (W.setCell ⟨b,1,Y⟩ v):=by
 obtain⟨f,g,i⟩:=h;refine⟨?_,?_,?_⟩
 ·rw[bS _ _ _ _ dO];exact f
 ·rw[bS _ _ _ _ dO];exact g
 ·simp[World.setCell,Array.getElem?_modify,i]
def JR(w:V)(b:Nat)(f j:M)(g:LP)(ps:List Pl)(e:Nat)(t28:M)(W:V):Prop:=
 ∃(i:Nat)(d:M),i<=ps.length/\t28=Z X i/\e=ps.length-i/\Aa w W/\b+1<=W.heap.size/\pl w b f j d W/\qe W (b+1) d (ps.take i)/\me g [] ps=me g (ps.take i) (ps.drop i)/\∀p∈ps.take i,Ca p=true
def IR(w:V)(d:Nat)(j k:M)(e:M)(g:LP)(ps:List Pl)(f:Nat)(b:M)(W:V):Prop:=
 ∃i:Nat,i<=ps.length/\b=Z X i/\f=ps.length-i/\Aa w W/\d+1<=W.heap.size/\pl w d j k e W/\Ic W e ps/\Mg g [] ps=Mg g (ps.take i) (ps.drop i)
def Aa.isPts{w w' v ps}(h:Fa w v ps)(k:Aa w w'):Fa w' v ps:=h.f k
def Zq w vg vp g ps(hg:Fa w vg g)(hp:Gf w vp ps)(bq:Gw w):Calls Tryz.prog 49 #[I #[vg,vp]] w (vo w vg g ps):=by
 have HG:=ka (fun(W:V)(hW:Aa w W)=>KO W vg g (hg.f hW));have bb:=ka (fun(W:V)(hW:Aa w W)=>hg.f hW);have bX:=ka (fun(W:V)(hW:Aa w W)=>hp.f hW);have bQ:=ka bq;obtain⟨ga,gn,gc,rfl⟩:=Ja hg;obtain⟨pa,pn,aY,rfl⟩:=Ja hp;have bs:=hp.len;have bt:=hp.le;obtain⟨R,hR⟩:=gX (vo w (O ga gn gc) g ps);rw[hR];have HR:=ka hR;have Hn:=ka bs.symm;have ct:pn<=9223372036854775807:=by unfold maxLen at bt;omega
 clear hg hp bq bs bt hR;obtain⟨G,hG⟩:=gX (Nb g);have aw:=ka hG;rw[hG]at HG;clear hG;cases G with
 |false=>
  have e:Rc g ps=2:=by unfold Rc;rw[aw.o];rfl
  have E:=ka e;clear e;go_in;go_wp2_with(go_at_call 125;refine cM (HG.o _ eA) ?_;rintro e w3 ⟨rfl,ab⟩;obtain⟨ay,aB⟩:=ab.cells;have z3:=ab.size;simp only[wZ]at z3);have bz:w.heap.size<w3.heap.size:=oM;have bA:w.heap.size+1<w3.heap.size:=oM;refine bR (v:=H #[I #[O Y 0 0,O Y 0 0],Z X 2]) (by simp[results,Tryz.results49,go_sem,ay,aB]) rfl ?_;rw[<-HR.o];exact .inl ⟨by rw[E.o];decide,by rw[E.o];rfl,eA⟩
 |true=>
  by_cases hn:120<pn
  ·have e:Rc g ps=5:=by unfold Rc;rw[aw.o,if_pos rfl,if_pos (by rw[Hn.o];exact hn)]
   have E:=ka e;have cf:(120:Int)<(pn:Int):=oM;clear e hn;go_in;go_wp2_with(go_at_call 125;refine cM (HG.o _ eA) ?_;rintro e w3 ⟨rfl,ab⟩;obtain⟨ay,aB⟩:=ab.cells;have z3:=ab.size;simp only[wZ]at z3);have bz:w.heap.size<w3.heap.size:=oM;have bA:w.heap.size+1<w3.heap.size:=oM;refine bR (v:=H #[I #[O Y 0 0,O Y 0 0],Z X 5]) (by simp[results,Tryz.results49,go_sem,ay,aB]) rfl ?_;rw[<-HR.o];exact .inl ⟨by rw[E.o];decide,by rw[E.o];rfl,eA⟩
  have e:Rc g ps=if me g [] ps=0 then Mg g [] ps else me g [] ps:=by unfold Rc;rw[aw.o,if_pos rfl,if_neg (by rw[Hn.o];exact hn)]
  have E:=ka e;have cf:¬(120:Int)<(pn:Int):=oM;clear e;go_in;go_wp2_with(go_at_call 125;refine cM (HG.o _ eA) ?_;rintro e w3 ⟨rfl,ab⟩;obtain⟨ay,aB⟩:=ab.cells;have z3:=ab.size;simp only[wZ]at z3;have bz:w.heap.size<w3.heap.size:=oM;have bA:w.heap.size+1<w3.heap.size:=oM);obtain⟨d,aR⟩:=gX w3.heap.size;have bY:=ka (show (w3.alloc (N #[O ga gn gc,O Y 0 0] 124)).heap.size=d+1 by simp[aR]);have Hz:=ka (show w.heap.size+1<d by omega);have hC:pl w d (O ga gn gc) (O pa pn aY) (O Y 0 0) (w3.alloc (N #[O ga gn gc,O Y 0 0] 124)):=by
   have y:=(eR w3).alloc (N #[O ga gn gc,O Y 0 0] 124);refine⟨y.e (ab.e ?_),y.e (ab.e (Bc _ _ _ sM)),Bc _ _ _ aR.symm⟩;rw[Dg,if_neg sM];exact Bc _ _ _ rfl
  have bi:Aa w w3:=eA;rw[aR]at *;clear ay aB ab;go_loopg [28] pn (JR w d (O ga gn gc) (O pa pn aY) g ps)
  case atStart =>
   exact⟨0,_,by omega,rfl,by rw[Hn.o];rfl,bi.alloc _,by rw[bY.o];omega,hC,qe.nil _ _,by simp,fun p h=>by simp at h⟩
  case round =>
   clear hC bi;obtain⟨i,vs,hi,rfl,rfl,hx,aS,hC,l,x,am⟩:=hrel;rw[Hn.o]at hi;obtain⟨va,vn,vc,rfl⟩:=l.i;have HC:=ka hC;have ba:=ka l;have Hx:=ka hx;have bW:=ka am;have bT:=ka x;have k0:=Ba hC.2.1 (i:=0) (u:=O Y 0 0) rfl;have k1:=Ba hC.2.1 (i:=1) (u:=O Y 0 0) rfl;have kf:=Ya hC.2.1;have m0:=Ba hC.2.2 (i:=0) (u:=O ga gn gc) rfl;have m1:=Ba hC.2.2 (i:=1) (u:=O va vn vc) rfl;have mf:=Ya hC.2.2;have zb:d<wr.heap.size:=oM;have zw:w.heap.size+1<wr.heap.size:=by have:=Hz.o;omega
   by_cases aH:i<pn
   ·obtain⟨p,hq⟩:∃q,ps[i]?=J q:=⟨ps[i]'(by rw[Hn.o];omega),by simp[Hn.o,aH]⟩;obtain⟨b,o,v,rfl,hb,d1,dk,r⟩:=(bX.o _ hx).at' hq;have aF:=ka d1;have au:=ka (fun W (hW:Aa wr W)=>Tu W p v (d1.f hW) dk);have aO:=ka (fun W (hW:Aa wr W) (h:Ca p=true)=>Wu W p v (d1.f hW) h (bQ.o.ext (hx.trans hW)));obtain⟨aj,al,ak,rfl⟩:=Ja d1;have Hq:=ka hq;obtain⟨ok,f1⟩:=gX (Ca p);have F1:=ka f1;rw[f1]at au;have aQ:=r 0 (.string p.name) rfl;have bZ:=r 1 (O aj al ak) rfl;have b0:=r 2 (Z X p.depth) rfl;have b1:=r 3 (Z X p.density) rfl;have b2:=r 4 (Z X p.gx) rfl;have b3:=r 5 (Z X p.gz) rfl;have b5:=r 6 (Z X p.way) rfl;have b6:=r 7 (Z X p.ax) rfl;have b7:=r 8 (Z X p.az) rfl;have b8:=r 9 (Z .u8 p.skin) rfl;simp only[Nat.add_zero]at aQ;have cu:d<wr.heap.size+1:=oM;have cv:w.heap.size+1<wr.heap.size+1:=oM;obtain⟨er,hE⟩:=gX (qh g (ps.take i) p);have aa:=hE;unfold qh at aa;unfold nc at au aO;cases ok with
    |false=>
     have e:Rc g ps=2:=by
      (have h2:qh g (ps.take i) p=2:=by unfold qh;rw[f1];rfl);(have h1:me g [] ps=2:=by rw[x,Vt hq (by rw[h2];decide),h2]);rw[E.o,h1];rfl
     have E2:=ka e;clear e hE aa hq r f1 d1 hC x am l E;go_wp2_with(go_at_call 28;refine cM (au.o _ eA) ?_;rintro e n ⟨rfl,K⟩;obtain⟨aU,aX⟩:=K.cells;(have z5:=K.size);(try simp only[wZ,jc]at z5);(have aZ:d<n.heap.size:=oM);(have a5:w.heap.size+1<n.heap.size:=oM);(have a4:w.heap.size+1<n.heap.size+1:=oM);(have a0:d<n.heap.size+1:=oM);(have a1:wr.heap.size<n.heap.size:=oM);(have a3:wr.heap.size<n.heap.size+1:=oM));have X5:Aa wr n:=eA;have K5:=X5.e HC.o.2.1;have x0:=Ba K5 (i:=0) (u:=O Y 0 0) rfl;have x1:=Ba K5 (i:=1) (u:=O Y 0 0) rfl;have xf:=Ya K5;refine bR (v:=H #[I #[O Y 0 0,O Y 0 0],Z X 2]) (by simp[results,Tryz.results49,go_sem,x0,x1,xf]) rfl ?_;rw[<-HR.o];exact .inl ⟨by rw[E2.o];decide,by rw[E2.o];rfl,eA⟩
    |true=>
     rw[f1,if_pos rfl]at aa;have aA:∀q∈ps.take i++[p],Ca q=true:=fun q hq=>by
      rcases List.mem_append.1 hq with h|h
      ·exact am q h
      ·rw[List.mem_singleton.1 h];exact f1
     have HO:=ka (fun W (hW:Aa wr W)=>aO.o W hW f1);have HH:=ka (fun(W:V)(hW:Aa wr W)(bx:M)(h2:Qd W bx p)=>BD W (O ga gn gc) (O va vn vc) bx g p (bb.o _ (hx.trans hW)) ⟨_,_,_,rfl⟩ h2 (On aw.o) f1);have HN:=ka (fun(W:V)(hW:Aa wr W)=>Bu W (O ga gn gc) (O va vn vc) (ps.take i) p.name ⟨_,_,_,rfl⟩ (l.las.f hW));obtain⟨bh,f2⟩:=gX (Pe g p);obtain⟨bn,f3⟩:=gX ((ps.take i).any (Xg p.name));rw[f2]at HH aa;rw[f3]at HN aa;have aP:=ka aA;clear aA aO;cases bh with
     |false=>
      have e:Rc g ps=2:=by
       (have h2:qh g (ps.take i) p=2:=by rw[hE,<-aa];rfl);(have h1:me g [] ps=2:=by rw[x,Vt hq (by rw[h2];decide),h2]);rw[E.o,h1];rfl
      have E2:=ka e;clear e hE aa hq r f1 f2 f3 d1 hC x am l E;go_wp2_with(first|(go_at_call 28;refine cM (au.o _ eA) ?_;rintro e n ⟨rfl,K⟩;obtain⟨aU,aX⟩:=K.cells;(have z5:=K.size);(try simp only[wZ,jc]at z5);(have aZ:d<n.heap.size:=oM);(have a5:w.heap.size+1<n.heap.size:=oM);(have a4:w.heap.size+1<n.heap.size+1:=oM);(have a0:d<n.heap.size+1:=oM);(have a1:wr.heap.size<n.heap.size:=oM);(have a3:wr.heap.size<n.heap.size+1:=oM))|(go_at_call 50;refine cM (HO.o _ eA) ?_;rintro e P ⟨vl,vu,rfl,an,ao,ap⟩;obtain⟨ac,af,ae,rfl⟩:=Ja an;obtain⟨ag,ai,ah,rfl⟩:=Ja ao;obtain⟨bk,bo⟩:=ap.cells;(have z6:=ap.size);(try simp only[wZ,jc]at z6);(have bB:d<P.heap.size:=oM);(have bL:w.heap.size+1<P.heap.size:=oM);(have bJ:w.heap.size+1<P.heap.size+1:=oM);(have bD:d<P.heap.size+1:=oM);(have bF:wr.heap.size<P.heap.size:=oM);(have bH:wr.heap.size<P.heap.size+1:=oM);try unfold De)|(go_at_call 51;refine cM (HH.o _ eA _ ?_) ?_;(exact⟨_,_,_,rfl,Aa.isPts (w:=wr) aF.o eA,an.f eA,ao.f eA⟩);rintro e w7 ⟨rfl,aq⟩;obtain⟨bl,bp⟩:=aq.cells;(have z7:=aq.size);(try simp only[wZ,jc]at z7);(have bC:d<w7.heap.size:=oM);(have bM:w.heap.size+1<w7.heap.size:=oM);(have bK:w.heap.size+1<w7.heap.size+1:=oM);(have bE:d<w7.heap.size+1:=oM);(have bG:wr.heap.size<w7.heap.size:=oM);(have bI:wr.heap.size<w7.heap.size+1:=oM);(have bN:P.heap.size<w7.heap.size:=oM)));have X7:Aa wr w7:=eA;have K7:=X7.e HC.o.2.1;have x0:=Ba K7 (i:=0) (u:=O Y 0 0) rfl;have x1:=Ba K7 (i:=1) (u:=O Y 0 0) rfl;have xf:=Ya K7;refine bR (v:=H #[I #[O Y 0 0,O Y 0 0],Z X 2]) (by simp[results,Tryz.results49,go_sem,x0,x1,xf]) rfl ?_;rw[<-HR.o];exact .inl ⟨by rw[E2.o];decide,by rw[E2.o];rfl,eA⟩
     |true=>
      cases bn with
      |true=>
       have e:Rc g ps=7:=by
        (have h2:qh g (ps.take i) p=7:=by rw[hE,<-aa];rfl);(have h1:me g [] ps=7:=by rw[x,Vt hq (by rw[h2];decide),h2]);rw[E.o,h1];rfl
       have E2:=ka e;clear e hE aa hq r f1 f2 f3 d1 hC x am l E;go_wp2_with(first|(go_at_call 28;refine cM (au.o _ eA) ?_;rintro e n ⟨rfl,K⟩;obtain⟨aU,aX⟩:=K.cells;(have z5:=K.size);(try simp only[wZ,jc]at z5);(have aZ:d<n.heap.size:=oM);(have a5:w.heap.size+1<n.heap.size:=oM);(have a4:w.heap.size+1<n.heap.size+1:=oM);(have a0:d<n.heap.size+1:=oM);(have a1:wr.heap.size<n.heap.size:=oM);(have a3:wr.heap.size<n.heap.size+1:=oM))|(go_at_call 50;refine cM (HO.o _ eA) ?_;rintro e P ⟨vl,vu,rfl,an,ao,ap⟩;obtain⟨ac,af,ae,rfl⟩:=Ja an;obtain⟨ag,ai,ah,rfl⟩:=Ja ao;obtain⟨bk,bo⟩:=ap.cells;(have z6:=ap.size);(try simp only[wZ,jc]at z6);(have bB:d<P.heap.size:=oM);(have bL:w.heap.size+1<P.heap.size:=oM);(have bJ:w.heap.size+1<P.heap.size+1:=oM);(have bD:d<P.heap.size+1:=oM);(have bF:wr.heap.size<P.heap.size:=oM);(have bH:wr.heap.size<P.heap.size+1:=oM);try unfold De)|(go_at_call 51;refine cM (HH.o _ eA _ ?_) ?_;(exact⟨_,_,_,rfl,Aa.isPts (w:=wr) aF.o eA,an.f eA,ao.f eA⟩);rintro e w7 ⟨rfl,aq⟩;obtain⟨bl,bp⟩:=aq.cells;(have z7:=aq.size);(try simp only[wZ,jc]at z7);(have bC:d<w7.heap.size:=oM);(have bM:w.heap.size+1<w7.heap.size:=oM);(have bK:w.heap.size+1<w7.heap.size+1:=oM);(have bE:d<w7.heap.size+1:=oM);(have bG:wr.heap.size<w7.heap.size:=oM);(have bI:wr.heap.size<w7.heap.size+1:=oM);(have bN:P.heap.size<w7.heap.size:=oM))|(go_at_call 52;refine cM (HN.o _ eA) ?_;rintro e w8 ⟨rfl,aE⟩;obtain⟨cd,ce⟩:=aE.cells;(have z8:=aE.size);(try simp only[wZ,jc]at z8);(have cg:d<w8.heap.size:=oM);(have cl:w.heap.size+1<w8.heap.size:=oM);(have ck:w.heap.size+1<w8.heap.size+1:=oM);(have ch:d<w8.heap.size+1:=oM);(have ci:wr.heap.size<w8.heap.size:=oM);(have cj:wr.heap.size<w8.heap.size+1:=oM);(have cm:P.heap.size<w8.heap.size:=oM)));have X8:Aa wr w8:=eA;have K8:=X8.e HC.o.2.1;have x0:=Ba K8 (i:=0) (u:=O Y 0 0) rfl;have x1:=Ba K8 (i:=1) (u:=O Y 0 0) rfl;have xf:=Ya K8;refine bR (v:=H #[I #[O Y 0 0,O Y 0 0],Z X 7]) (by simp[results,Tryz.results49,go_sem,x0,x1,xf]) rfl ?_;rw[<-HR.o];exact .inl ⟨by rw[E2.o];decide,by rw[E2.o];rfl,eA⟩
      |false=>
       (have h2:qh g (ps.take i) p=0:=by rw[hE,<-aa];rfl);have e:=x.trans (Mp hq h2);have E2:=ka e;have bv:ps.take (i+1)=ps.take i++[p]:=Uf _ _ _ hq;have bc:=ka bv;obtain⟨cs,aW,aV,bm⟩:=l;have a6:=ka aW;have bP:=ka bm;have bO:=ka aV;have bU:=ka (show cs.length<=120 by rw[aV];simp;omega);have bV:=ka (fun j (h:(Value.slice va vn vc).ownBlock=J j)=>aW.lt j h);clear e hE aa hq r f1 f2 f3 d1 hC x am E h2 bv aW aV bm;go_wp2_with(first|(go_at_call 28;refine cM (au.o _ eA) ?_;rintro e n ⟨rfl,K⟩;obtain⟨aU,aX⟩:=K.cells;(have z5:=K.size);(try simp only[wZ,jc]at z5);(have aZ:d<n.heap.size:=oM);(have a5:w.heap.size+1<n.heap.size:=oM);(have a4:w.heap.size+1<n.heap.size+1:=oM);(have a0:d<n.heap.size+1:=oM);(have a1:wr.heap.size<n.heap.size:=oM);(have a3:wr.heap.size<n.heap.size+1:=oM))|(go_at_call 50;refine cM (HO.o _ eA) ?_;rintro e P ⟨vl,vu,rfl,an,ao,ap⟩;obtain⟨ac,af,ae,rfl⟩:=Ja an;obtain⟨ag,ai,ah,rfl⟩:=Ja ao;obtain⟨bk,bo⟩:=ap.cells;(have z6:=ap.size);(try simp only[wZ,jc]at z6);(have bB:d<P.heap.size:=oM);(have bL:w.heap.size+1<P.heap.size:=oM);(have bJ:w.heap.size+1<P.heap.size+1:=oM);(have bD:d<P.heap.size+1:=oM);(have bF:wr.heap.size<P.heap.size:=oM);(have bH:wr.heap.size<P.heap.size+1:=oM);try unfold De)|(go_at_call 51;refine cM (HH.o _ eA _ ?_) ?_;(exact⟨_,_,_,rfl,Aa.isPts (w:=wr) aF.o eA,an.f eA,ao.f eA⟩);rintro e w7 ⟨rfl,aq⟩;obtain⟨bl,bp⟩:=aq.cells;(have z7:=aq.size);(try simp only[wZ,jc]at z7);(have bC:d<w7.heap.size:=oM);(have bM:w.heap.size+1<w7.heap.size:=oM);(have bK:w.heap.size+1<w7.heap.size+1:=oM);(have bE:d<w7.heap.size+1:=oM);(have bG:wr.heap.size<w7.heap.size:=oM);(have bI:wr.heap.size<w7.heap.size+1:=oM);(have bN:P.heap.size<w7.heap.size:=oM))|(go_at_call 52;refine cM (HN.o _ eA) ?_;rintro e w8 ⟨rfl,aE⟩;obtain⟨cd,ce⟩:=aE.cells;(have z8:=aE.size);(try simp only[wZ,jc]at z8);(have cg:d<w8.heap.size:=oM);(have cl:w.heap.size+1<w8.heap.size:=oM);(have ck:w.heap.size+1<w8.heap.size+1:=oM);(have ch:d<w8.heap.size+1:=oM);(have ci:wr.heap.size<w8.heap.size:=oM);(have cj:wr.heap.size<w8.heap.size+1:=oM);(have cm:P.heap.size<w8.heap.size:=oM))|(at_builtin;refine Ah (T:=128) (t:=122) (z:=I ms) (k:=12) (bytes:=152) (base:=d+1) (v:=O va vn vc) (cs:=cs) (m:=1) (c:=1) (ad:=⟨w8.heap.size,0,Y⟩) kI rfl dM dM Tryz.underlying122 rfl _ _ rfl rfl (a6.o.ext eA) rfl [(De p (O aj al ak) (O ac af ae) (O ag ai ah)).toList] rfl (by simp[De]) (by exact jq w8 (De p (O aj al ak) (O ac af ae) (O ag ai ah)) 128) (by simp[De,Value.oneCell']) (by have:=bU.o;omega) (by simp only[wZ];omega) ?_;intro v' w9 aD ar cp;obtain⟨a9,n9,c9,rfl⟩:=aD.i;(have av:Aa wr (w8.alloc (N (De p (O aj al ak) (O ac af ae) (O ag ai ah)) 128)):=eA);(have hK:=av.e HC.o.2.2);(have hM:w9.heap[d]?=J (N #[O ga gn gc,O va vn vc] 124 (0,0)):=Ti ar hK (fun e=>by have:=(bV.o _ e.symm).1;omega));(have n1:=Ba hM (i:=1) (u:=O va vn vc) rfl);(have nf:=Ya hM)));go_roundg (pn-(i+1))
       case measure=>have:=Hn.o;omega
       case rel =>
        have bg:=a6.o.ext av;(have bj:d+1<=(w8.alloc (N (De p (O aj al ak) (O ac af ae) (O ag ai ah)) 128)).heap.size:=by simp only[wZ];omega);have aT:=Bh (base:=d+1) ar bj (fun k hk=>(bg.lt k hk).1);have aG:=bg.keepT (T':=43) dM ar;have cc:Aa w (w8.alloc (N (De p (O aj al ak) (O ac af ae) (O ag ai ah)) 128)):=Hx.o.trans av;have hz:=Hz.o;have ca:Aa w w9:=cc.y aT oM;have b9:pl w d _ _ _ w9:=(HC.o.ext av).below aT hz;have aL:Aa P (w8.alloc (N (De p (O aj al ak) (O ac af ae) (O ag ai ah)) 128)):=eA;have bf:qe w9 (d+1) (O a9 n9 c9) (ps.take i++[p]):=qe.app aD bO.o bP.o (av.keep.trans aG) ⟨_,_,_,rfl,((aF.o.f av).z aG),((an.f aL).z aG),((ao.f aL).z aG)⟩;refine⟨i+1,O a9 n9 c9,by rw[Hn.o];omega,by go_num,by rw[Hn.o],ca.set dO _,by rw[yg];exact nT bj aT.size,b9.put hz _,?_,E2.o,by rw[bc.o];exact aP.o⟩;rw[bc.o];exact bf.setOther (fun e=>by have:=(bf.lt _ e).1;dsimp only at this;omega) (fun cs fr h=>by rw[hM]at h;cases h) _
   ·obtain rfl:i=pn:=oM;have e1:ps.take i=ps:=lT (by rw[Hn.o];exact nE _);have e2:ps.drop i=[]:=List.drop_of_length_le (by rw[Hn.o];exact nE _);rw[e1]at am l x;rw[e2,show me g ps []=0 from rfl]at x;have hE:=E.o;rw[if_pos x]at hE;have E3:=ka hE;have aJ:=ka am;have f:=l.las;have aK:=f.len;rw[Hn.o]at aK;subst aK;have aI:=f.le;rw[Hn.o]at aI;have cq:vn<=vc:=aI.1;(have cr:vc<=9223372036854775807:=by have:=aI.2;unfold maxLen at this;omega);clear e1 e2 x hE l ba bW bT E am aI;go_wp2;go_loopg [59] vn (IR w d (O ga gn gc) (O pa vn aY) (O va vn vc) g ps)
    case atStart=>exact⟨0,by omega,rfl,by rw[Hn.o];rfl,Hx.o,by omega,HC.o,f,by simp⟩
    case round =>
     clear f hC HC Hx hx k0 k1 kf m0 m1 mf aS zb zw aH hi;obtain⟨i,hi,rfl,rfl,hx,aS,hC,f,aC⟩:=hrel;rw[Hn.o]at hi;have HC:=ka hC;have Hx:=ka hx;have k0:=Ba hC.2.1 (i:=0) (u:=O Y 0 0) rfl;have k1:=Ba hC.2.1 (i:=1) (u:=O Y 0 0) rfl;have kf:=Ya hC.2.1;have m0:=Ba hC.2.2 (i:=0) (u:=O ga gn gc) rfl;have m1:=Ba hC.2.2 (i:=1) (u:=O va vn vc) rfl;have mf:=Ya hC.2.2;have zb:d<wr.heap.size:=oM;(have zw:w.heap.size+1<wr.heap.size:=by have:=Hz.o;omega);by_cases aH:i<vn
     ·obtain⟨p,hq⟩:∃q,ps[i]?=J q:=⟨ps[i]'(by rw[Hn.o];omega),by simp[Hn.o,aH]⟩;obtain⟨b,o,s1,l1,u1,rfl,hb,d1,d2,d3,r⟩:=f.at' hq;have bw:Ic wr (O (J ⟨b,o,Y⟩) i vc) (ps.take i):=f.take (by rw[Hn.o];omega) (by rw[Hn.o];omega) oM (nE _);have br:=aJ.o p (lM hq);have aM:=ka (fun W (hW:Aa wr W)=>lE W (O ga gn gc) (O (J ⟨b,o,Y⟩) i vc) (I (De p s1 l1 u1)) g (ps.take i) p (bb.o _ (hx.trans hW)) (bw.f hW) ⟨_,_,_,rfl,d1.f hW,d2.f hW,d3.f hW⟩ (On aw.o) (fun q h=>aJ.o q (List.mem_of_mem_take h)) br);obtain⟨aj,al,ak,rfl⟩:=Ja d1;obtain⟨ac,af,ae,rfl⟩:=Ja d2;obtain⟨ag,ai,ah,rfl⟩:=Ja d3;obtain⟨cb,f1⟩:=gX (Ce g (ps.take i) p);rw[f1]at aM;unfold De at aM;have aQ:=r 0 (.string p.name) rfl;have bZ:=r 1 (O aj al ak) rfl;have b0:=r 2 (Z X p.depth) rfl;have b1:=r 3 (Z X p.density) rfl;have b2:=r 4 (Z X p.gx) rfl;have b3:=r 5 (Z X p.gz) rfl;have b5:=r 6 (Z X p.way) rfl;have b6:=r 7 (Z X p.ax) rfl;have b7:=r 8 (Z X p.az) rfl;have b8:=r 9 (Z .u8 p.skin) rfl;have cn:=r 10 (O ac af ae) rfl;have co:=r 11 (O ag ai ah) rfl;simp only[Nat.add_zero]at aQ;have Hq:=ka hq;have a7:=ka aC;have F1:=ka f1;have a8:=ka f;have p0:(0:Int)<=(i:Int):=oM;have p1:(i:Int)<=(vc:Int):=oM;have p2:i<=vc:=oM;clear r hq aC f1 f bw br d1 d2 d3 hC hx;go_wp2;refine Uc [(⟨d,0,Y⟩,O ga gn gc),(⟨d,1,Y⟩,O (J ⟨b,o,Y⟩) vn vc),(⟨wr.heap.size,0,Y⟩,.string p.name),(⟨wr.heap.size,1,Y⟩,O aj al ak),(⟨wr.heap.size,2,Y⟩,Z X p.depth),(⟨wr.heap.size,3,Y⟩,Z X p.density),(⟨wr.heap.size,4,Y⟩,Z X p.gx),(⟨wr.heap.size,5,Y⟩,Z X p.gz),(⟨wr.heap.size,6,Y⟩,Z X p.way),(⟨wr.heap.size,7,Y⟩,Z X p.ax),(⟨wr.heap.size,8,Y⟩,Z X p.az),(⟨wr.heap.size,9,Y⟩,Z .u8 p.skin),(⟨wr.heap.size,10,Y⟩,O ac af ae),(⟨wr.heap.size,11,Y⟩,O ag ai ah)] cA fun be=>?_;refine sN 0 ?_
      (iterate 8 refine Bb ?_);refine oN ?_;refine Fb (i:=8) (aM.o _ eA) ?_;rintro e n ⟨rfl,K⟩;refine⟨_,rfl,(cE be K),fun be=>?_⟩;refine Ib (i:=9) ?_;refine Sb ?_;have X5:Aa wr n:=eA;have K5:=X5.e HC.o.2.1;have y0:=Ba K5 (i:=0) (u:=O Y 0 0) rfl;have y1:=Ba K5 (i:=1) (u:=O Y 0 0) rfl;have yf:=Ya K5;cases cb with
      |false=>
       (have e:Rc g ps=12:=by rw[E3.o,a7.o,EO Hq.o F1.o]);have E2:=ka e;clear e;have hx:=Hx.o;go_wp2;have X5:Aa wr n:=eA;have K5:=X5.e HC.o.2.1;have x0:=Ba K5 (i:=0) (u:=O Y 0 0) rfl;have x1:=Ba K5 (i:=1) (u:=O Y 0 0) rfl;have xf:=Ya K5;refine bR (v:=H #[I #[O Y 0 0,O Y 0 0],Z X 12]) (by simp[results,Tryz.results49,go_sem,x0,x1,xf]) rfl ?_;rw[<-HR.o];exact .inl ⟨by rw[E2.o];decide,by rw[E2.o];rfl,eA⟩
      |true=>
       go_wp2;go_roundg (vn-(i+1))
       case measure=>have:=Hn.o;omega
       case rel=>exact⟨i+1,by rw[Hn.o];omega,by go_num,by rw[Hn.o],Hx.o.trans X5,nT aS X5.size,HC.o.ext X5,a8.o.f X5,a7.o.trans (FO Hq.o F1.o)⟩
     ·obtain rfl:i=vn:=oM;have e2:ps.drop i=[]:=List.drop_of_length_le (by rw[Hn.o];exact nE _);rw[e2]at aC;(have e:Rc g ps=0:=by rw[E3.o,aC];cases ps.take i<;>rfl);have E2:=ka e;(have bu:w.heap.size+1≠d:=by have:=Hz.o;omega);clear e e2 aC hC;go_wp2;refine bR (v:=H #[I #[O ga gn gc,O va i vc],Z X 0]) (by simp[results,Tryz.results49,go_sem,k0,k1,kf,m0,m1,bu]) rfl ?_;rw[<-HR.o];have hN:∀T,T≠124->td T wr (w.heap.size+1):=fun T hT cs fr h=>by
       rw[HC.o.2.1]at h;cases h;exact hT rfl
      have hK:∀T u u',T≠124->Ia T wr ((wr.setCell ⟨w.heap.size+1,0,Y⟩ u).setCell ⟨w.heap.size+1,1,Y⟩ u'):=fun T u u' hT=>((Ia.refl _ wr).x (hN T hT) _).x ((hN T hT).set _ _) _;exact .inr ⟨E2.o,_,rfl,Sl.keep f (fun _ _ h=>Gl.keep h (hK _ _ _ dM)) (hK _ _ _ dM),(Hx.o.set dO _).set dO _⟩
end
section
open Go.RowKit Go.Shelf
attribute [local go_sem] Oper.semAt_some
def mP w v q(h:Sa w v q)(hl:Rb Zb q)(h0:0<=q.num):Calls Tryz.prog 60 #[v] w (uj w q.floor):=by
 obtain⟨a,m,c,s,a2,m2,c2,rfl⟩:=h.form;rw[Rat.floor_def];have HB:=ka (fun(W:V)(hW:Aa w W)=>Wn W _ q (h.ext hW) (hl.mono dM));have HQ:=ka (fun(W:V)(hW:Aa w W)(v:M)(hv:Id W v (q.den:Int))=>Fw W (I #[O a m c,C s]) v q.num (q.den:Int) (h.top.ext hW) hv (hl.1.mono dM) (hl.2.mono dM) (by have:=q.den_pos;omega) (.inl h0));clear h hl h0;go_in;go_upto_region 1 with fail;obtain⟨W0,b⟩:=gX ((w.alloc (N #[O a m c,C s,O a2 m2 c2] 63)).alloc (N #[O Y 0 0,C false] 61));have X0:Aa w W0:=by rw[<-b];exact((eR w).alloc _).alloc _
 have kr:W0.heap[w.heap.size+1]?=J (N #[O Y 0 0,C false] 61 (0,0)):=by rw[<-b];exact Bc _ _ _ sM
 have C0:Ea [(⟨w.heap.size,0,Y⟩,O a m c),(⟨w.heap.size,1,Y⟩,C s),(⟨w.heap.size,2,Y⟩,O a2 m2 c2)] W0.drew:=by
  rw[<-b];clear b;refine⟨?_,?_,?_,trivial⟩<;>go_simp
 rw[b];clear b;refine Eg [(9,3,N #[O Y 0 0,C false] 61 (0,0)),(10,4,N #[O Y 0 0,C false] 61 (0,0))] _ 12 3 (fun i=>decide (10<i)) (fun i=>i==7 || i==8) kM kM kM sM kM (by intro x hx;simp only[List.mem_cons,List.not_mem_nil,or_false]at hx;rcases hx with rfl|rfl<;>exact⟨_,rfl,rfl,fun a W=>by go_simp⟩) (fun _ _ d _ _ h=>by cases d<;>exact h) C0 (fun o=>?_);refine Pb (i:=0) ?_;refine Pb (i:=1) ?_;refine Pb (i:=2) ?_;refine Qe (i:=3) fun W3 j ab r K g=>?_;go_simp;refine cM (HB.o W3 (X0.drew.trans j)) ?_;rintro e w3 ⟨v3,rfl,y,P⟩;obtain⟨a3,m3,c3,s3,rfl⟩:=y.form;go_wp2;refine kO g (.of ab P) (fun _ _=>?_);clear g K r;refine Qe (i:=4) fun W4 k ac r K g=>?_;go_simp;refine cM (HQ.o W4 (X0.drew.trans (j.trans (P.trans k))) _ (y.ext k)) ?_;rintro e w4 ⟨v4,v5,rfl,z,ad,ae⟩;obtain⟨⟨a4,m4,c4,s4,rfl⟩,a5,m5,c5,s5,rfl⟩:=And.intro z.form ad.form;go_wp2;refine kO g (.of ac ae) (fun _ _=>?_);clear g K r;refine Pb (i:=5) ?_;refine Pb (i:=6) ?_;refine Pb (i:=7) ?_;refine Pb (i:=8) ?_;refine df kM (fun W5 n l=>?_);intro b5 q5 y5 _ _ b6 q6 y6 R _;have R:b6≠b5:=by simpa using R
 have X5:Aa W0 W5:=(eR W0).drew.trans l;have h4:=z.ext n;have zk:=Jb kr;have af:W0.heap.size<=b5:=by simpa using y5
 have ag:W0.heap.size<=b6:=by simpa using y6
 have xf:=Ya q5;have yf:=Ya q6;have x0:=Ba q5 (i:=0) (u:=O Y 0 0) rfl;have x1:=Ba q5 (i:=1) (u:=C false) rfl;have u0:=Ba q6 (i:=0) (u:=O Y 0 0) rfl;have u1:=Ba q6 (i:=1) (u:=C false) rfl;clear j P k ae n y z ad;refine Vc (i:=11) fun K g=>?_;go_simp;refine kO g (cE o (by(repeat refine Aa.set ?_ (by first|exact y5|exact y6) _);exact l)) (fun aa=>?_);clear g K;refine Vc (i:=12) fun K g=>?_;go_simp;refine kO g (cE o (by(repeat refine Aa.set ?_ (by first|exact y5|exact y6) _);exact l)) (fun aa=>?_);clear g K;refine Ib (i:=13) ?_;refine Sb ?_;clear x0 x1 u0 u1 xf yf;obtain⟨W6,t⟩:=gX (jh (jh W5 b5 0 [O a4 m4 c4,C s4]) b6 0 [O a5 m5 c5,C s5]);have e6:(((W5.setCell ⟨b5,0,Y⟩ (O a4 m4 c4)).setCell ⟨b5,1,Y⟩ (C s4)).setCell ⟨b6,0,Y⟩ (O a5 m5 c5)).setCell ⟨b6,1,Y⟩ (C s5)=W6:=t;rw[e6];have TB:=Zx (cs:=[O Y 0 0,C false]) (ds:=[O Y 0 0,C false]) [O a4 m4 c4,C s4] [O a5 m5 c5,C s5] q5 q6 R rfl rfl;rw[t]at TB;obtain⟨K5,K6,tb,tk,te⟩:=TB;have X6:=te W0 X5 af ag;have h6:=h4.keep (tk 2 dM dM);have f:=X6.e kr;have zr:=Jb f;have z5:=Jb K5;have c0:=Ba K5 (i:=0) (u:=O a4 m4 c4) rfl;have c1:=Ba K5 (i:=1) (u:=C s4) rfl;have r0:=Ba f (i:=0) (u:=O Y 0 0) rfl;have r1:=Ba f (i:=1) (u:=C false) rfl;have rf:=Ya f;have kp:Ia 2 W6 ((W6.setCell ⟨w.heap.size+1,0,Y⟩ (O a4 m4 c4)).setCell ⟨w.heap.size+1,1,Y⟩ (C s4)):=by
  have hn:td 2 W6 (w.heap.size+1):=by intro cs fr e;rw[f]at e;cases e
  exact((Ia.refl _ W6).x hn _).x (hn.set _ _) _
 clear t e6 tb tk te h4 X5 q5 q6 f K5 K6 kr l aa o C0;go_wp2;exact bR (v:=I #[O a4 m4 c4,C s4]) (by simp[results,Tryz.results60,go_sem,zr,r0,r1,rf]) rfl ⟨_,rfl,h6.keep kp,((X0.trans X6).set (p:=⟨w.heap.size+1,0,Y⟩) (Nat.le_succ _) _).set (p:=⟨w.heap.size+1,1,Y⟩) (Nat.le_succ _) _⟩
def YE w n d(K:-9223372036854775808<=n)(P:n<=9223372036854775807)(R:-9223372036854775808<=d)(h3:d<=9223372036854775807)(hd:d≠0):Calls Tryz.prog 74 #[Z X n,Z X d] w (Lc w (Rat.divInt n d)):=by have o:Ta (Lm Qc n):=ka (Lm.mono (j:=3) (by unfold Lm B;omega) dM);have p:Ta (Lm Qc d):=ka (Lm.mono (j:=3) (by unfold Lm B;omega) dM);obtain⟨q,x⟩:=gX (Rat.divInt n d);rw[x];have Hq:=ka x;have Hd:=ka hd;have k:=ka (fun W=>Su W n K P);have l:=ka (fun W=>Su W d R h3);clear x hd K P R h3;go_in;go_wp2_with(first|(go_at_call 146;(with_reducible refine(sF _ (I #[Z X s1,O a1 m1 c1]) (I #[Z X s2,O a2 m2 c2]) n d (hr1.ext hx2) hr2 o.o p.o Hd.o).mono ?_);rw[Hq.o];rintro e w3 ⟨r3,rfl,b,z⟩;obtain⟨s3,a3,m3,c3,s4,a4,m4,c4,rfl⟩:=b.form;obtain⟨⟨u,ac⟩,i⟩:=oe w z)|(go_at_call 96;(with_reducible refine(l.o w1).mono ?_);rintro e w2 ⟨r2,rfl,hr2,hx2⟩;obtain⟨s2,a2,m2,c2,rfl,-⟩:=hr2.j;obtain⟨⟨t,ab⟩,g⟩:=oe w hx2)|(go_at_call 96;(with_reducible refine(k.o (w.alloc _)).mono ?_);rintro e w1 ⟨r1,rfl,hr1,y⟩;obtain⟨s1,a1,m1,c1,rfl,-⟩:=hr1.j;obtain⟨⟨r,aa⟩,f⟩:=oe w y));exact bR (v:=I #[Z X s3,O a3 m3 c3,Z X s4,O a4 m4 c4]) (by simp[results,Tryz.results74,go_sem,r,t,u,f,g,i]) rfl ⟨_,rfl,b.keep kA,eA⟩
def uG w x p(j:Gb w x p):Calls Tryz.prog 170 #[x] w (Lc w (-p)):=by
 obtain⟨s,a,m,c,t,o,u,r,rfl⟩:=j.form;have n:=j.top;go_in;go_wp2;go_region_held3 (fun W=>W.cell? ⟨w.heap.size,0,Y⟩=J (Z X s)/\W.cell? ⟨w.heap.size,1,Y⟩=J (O a m c)/\W.cell? ⟨w.heap.size,2,Y⟩=J (Z X t)/\W.cell? ⟨w.heap.size,3,Y⟩=J (O o u r)) ((repeat' (with_reducible refine And.intro ?_ ?_))<;>(first|(go_simp;done)|(refine hx1.d ?_;go_simp;done))) (first|(go_at_call 193;(with_reducible refine(xF _ (I #[Z X s,O a m c]) p.num ?_).mono ?_);(refine n.ext ?_;exact eA);rintro e w1 ⟨r1,rfl,b,hx1⟩;obtain⟨s1,K,m1,R,rfl,-⟩:=b.j;obtain⟨⟨k,aa⟩,y,g⟩:=Yb w hx1)|(go_at_call 81;(with_reducible refine(Dl _ (I #[Z X s,O a m c,Z X t,O o u r]) p ?_).mono ?_);(refine j.ext ?_;exact eA);rintro e w3 ⟨r3,rfl,d,f⟩;obtain⟨s3,P,m3,c3,rfl,-⟩:=d.j;obtain⟨⟨l,ab⟩,z,i⟩:=Yb w f))
 all_goals go_wp2
 exact bR (v:=I #[Z X s1,O K m1 R,Z X s3,O P m3 c3]) (by simp[results,Tryz.results170,go_sem,k,l,g,i]) rfl ⟨_,rfl,Gb.keep (Gb.mk (q:=-p) (b.ext f) d) kA,eA⟩
def uF w va vb p q(ha:Gb w va p)(hb:Gb w vb q)(b:Rb Xc p)(d:Rb Xc q):Calls Tryz.prog 22 #[va,vb] w fun e w'=>e=.returned (Z X (yb p q))/\Aa w w':=by
 obtain⟨s,a,m,c,t,ea,em,ec,rfl⟩:=ha.form;obtain⟨s',R,m',c',t',i,k,j,rfl⟩:=hb.form;have aq:=ka b;have ar:=ka d;have aa:=ha.top;have ab:=hb.top;have u:Ta (Lm kc p.num):=ka (b.1.mono dM);have x:Ta (Lm kc q.num):=ka (d.1.mono dM);have y:Ta (Lm kc (p.den:Int)):=ka (b.2.mono dM);have z:Ta (Lm kc (q.den:Int)):=ka (d.2.mono dM);have K:Ta (Lm Qc (p.num*q.den)):=ka ((b.1.mul d.2).mono dM);have P:Ta (Lm Qc (q.num*p.den)):=ka ((d.1.mul b.2).mono dM);have au:Ta (Lm Qc (p.num*q.num)):=ka ((b.1.mul d.1).mono dM);have av:Ta (Lm Qc ((p.den:Int)*q.den)):=ka ((b.2.mul d.2).mono dM);have aw:Ta (Lm Qc ((p.den:Int)*q.num)):=ka ((b.2.mul d.1).mono dM);have f:Ta (Lm kc (p.num*q.den)):=ka (K.o.mono dM);have g:Ta (Lm kc (q.num*p.den)):=ka (P.o.mono dM);have ax:Ta (Lm Qc (p.num*q.den+q.num*p.den)):=ka (((b.1.mul d.2).add (d.1.mul b.2)).mono dM);clear b d;go_in;go_wp2;go_region_held3 (fun W=>W.cell? ⟨w.heap.size,0,Y⟩=J (Z X s)/\W.cell? ⟨w.heap.size,1,Y⟩=J (O a m c)/\W.cell? ⟨w.heap.size,2,Y⟩=J (Z X t)/\W.cell? ⟨w.heap.size,3,Y⟩=J (O ea em ec)/\W.cell? ⟨w.heap.size+1,0,Y⟩=J (Z X s')/\W.cell? ⟨w.heap.size+1,1,Y⟩=J (O R m' c')/\W.cell? ⟨w.heap.size+1,2,Y⟩=J (Z X t')/\W.cell? ⟨w.heap.size+1,3,Y⟩=J (O i k j)) ((repeat' (with_reducible refine And.intro ?_ ?_))<;>(first|(go_simp;done)|(refine hx1.d ?_;go_simp;done))) (first|(go_at_call 81;(with_reducible refine(Dl _ (I #[Z X s',O R m' c',Z X t',O i k j]) q ?_).mono ?_);(refine hb.ext ?_;exact eA);rintro e w1 ⟨r1,rfl,l,hx1⟩;obtain⟨s1,a1,m1,c1,rfl,-⟩:=l.j;obtain⟨⟨ay,aD⟩,ag,ah⟩:=Yb w hx1)|(go_at_call 81;(with_reducible refine(Dl _ (I #[Z X s,O a m c,Z X t,O ea em ec]) p ?_).mono ?_);(refine ha.ext ?_;exact eA);rintro e w3 ⟨r3,rfl,o,ad⟩;obtain⟨s3,a3,m3,c3,rfl,-⟩:=o.j;obtain⟨⟨aA,aF⟩,ak,al⟩:=Yb w ad)|(go_at_call 80;(with_reducible refine(ul _ (I #[Z X s,O a m c]) (I #[Z X s1,O a1 m1 c1]) p.num (q.den:Int) ?_ ?_ u.o z.o).mono ?_);(refine aa.ext ?_;exact eA);(refine l.ext ?_;exact eA);rintro e w2 ⟨r2,rfl,n,ac⟩;obtain⟨s2,a2,m2,c2,rfl,-⟩:=n.j;obtain⟨⟨az,aE⟩,ai,aj⟩:=Yb w ac)|(go_at_call 80;(with_reducible refine(ul _ (I #[Z X s',O R m' c']) (I #[Z X s3,O a3 m3 c3]) q.num (p.den:Int) ?_ ?_ x.o y.o).mono ?_);(refine ab.ext ?_;exact eA);(refine o.ext ?_;exact eA);rintro e w4 ⟨r4,rfl,r,ae⟩;obtain⟨s4,a4,m4,c4,rfl,-⟩:=r.j;obtain⟨⟨aB,aG⟩,am,an⟩:=Yb w ae)|(go_at_call 79;(with_reducible refine(Ft _ (I #[Z X s2,O a2 m2 c2]) (I #[Z X s4,O a4 m4 c4]) (p.num*q.den) (q.num*p.den) ?_ ?_ f.o g.o).mono ?_);(refine n.ext ?_;exact eA);(refine r.ext ?_;exact eA);rintro e w5 ⟨rfl,af⟩;obtain⟨⟨aC,aH⟩,ao,ap⟩:=Yb w af))
 all_goals go_wp2
 go_ret;exact⟨rfl,eA⟩
def LC w va vb p q(ha:Gb w va p)(hb:Gb w vb q)(b:Rb Xc p)(d:Rb Xc q):Calls Tryz.prog 100 #[va,vb] w (Lc w (p+q)):=by
 obtain⟨s,a,m,c,t,ea,em,ec,rfl⟩:=ha.form;obtain⟨s',a',m',c',t',f,i,g,rfl⟩:=hb.form;have bc:=ka b;have be:=ka d;have aA:=ha.top;have aB:=hb.top;have aj:Ta (Lm kc p.num):=ka (b.1.mono dM);have ak:Ta (Lm kc q.num):=ka (d.1.mono dM);have j:Ta (Lm kc (p.den:Int)):=ka (b.2.mono dM);have k:Ta (Lm kc (q.den:Int)):=ka (d.2.mono dM);have al:Ta (Lm Qc (p.num*q.den)):=ka ((b.1.mul d.2).mono dM);have am:Ta (Lm Qc (q.num*p.den)):=ka ((d.1.mul b.2).mono dM);have bf:Ta (Lm Qc (p.num*q.num)):=ka ((b.1.mul d.1).mono dM);have an:Ta (Lm Qc ((p.den:Int)*q.den)):=ka ((b.2.mul d.2).mono dM);have bg:Ta (Lm Qc ((p.den:Int)*q.num)):=ka ((b.2.mul d.1).mono dM);have l:Ta (Lm kc (p.num*q.den)):=ka (al.o.mono dM);have n:Ta (Lm kc (q.num*p.den)):=ka (am.o.mono dM);have ao:Ta (Lm Qc (p.num*q.den+q.num*p.den)):=ka (((b.1.mul d.2).add (d.1.mul b.2)).mono dM);clear b d;go_in;go_wp2;go_region_held3 (fun W=>W.cell? ⟨w.heap.size,0,Y⟩=J (Z X s)/\W.cell? ⟨w.heap.size,1,Y⟩=J (O a m c)/\W.cell? ⟨w.heap.size,2,Y⟩=J (Z X t)/\W.cell? ⟨w.heap.size,3,Y⟩=J (O ea em ec)/\W.cell? ⟨w.heap.size+1,0,Y⟩=J (Z X s')/\W.cell? ⟨w.heap.size+1,1,Y⟩=J (O a' m' c')/\W.cell? ⟨w.heap.size+1,2,Y⟩=J (Z X t')/\W.cell? ⟨w.heap.size+1,3,Y⟩=J (O f i g)) ((repeat' (with_reducible refine And.intro ?_ ?_))<;>(first|(go_simp;done)|(refine hx1.d ?_;go_simp;done))) (first|(go_at_call 81;(with_reducible refine(Dl w6 (I #[Z X s',O a' m' c',Z X t',O f i g]) q ?_).mono ?_);(refine hb.ext ?_;exact eA);rintro e w7 ⟨r7,rfl,K,aH⟩;obtain⟨s7,a7,m7,c7,rfl,-⟩:=K.j;obtain⟨⟨ax,bn⟩,aX,aY,ag⟩:=Ub w aH)|(go_at_call 81;(with_reducible refine(Dl w5 (I #[Z X s,O a m c,Z X t,O ea em ec]) p ?_).mono ?_);(refine ha.ext ?_;exact eA);rintro e w6 ⟨r6,rfl,z,aG⟩;obtain⟨s6,a6,m6,c6,rfl,-⟩:=z.j;obtain⟨⟨aw,bm⟩,aV,aW,af⟩:=Ub w aG)|(go_at_call 81;(with_reducible refine(Dl w2 (I #[Z X s,O a m c,Z X t,O ea em ec]) p ?_).mono ?_);(refine ha.ext ?_;exact eA);rintro e w3 ⟨r3,rfl,u,aD⟩;obtain⟨s3,a3,m3,c3,rfl,-⟩:=u.j;obtain⟨⟨ar,bj⟩,aP,aQ,ac⟩:=Ub w aD)|(go_at_call 81;(with_reducible refine(Dl _ (I #[Z X s',O a' m' c',Z X t',O f i g]) q ?_).mono ?_);(refine hb.ext ?_;exact eA);rintro e w1 ⟨r1,rfl,o,hx1⟩;obtain⟨s1,a1,m1,c1,rfl,-⟩:=o.j;obtain⟨⟨ap,bh⟩,aK,aL,aa⟩:=Ub w hx1)|(go_at_call 80;(with_reducible refine(ul _ (I #[Z X s,O a m c]) (I #[Z X s1,O a1 m1 c1]) p.num (q.den:Int) ?_ ?_ aj.o k.o).mono ?_);(refine aA.ext ?_;exact eA);(refine o.ext ?_;exact eA);rintro e w2 ⟨r2,rfl,r,aC⟩;obtain⟨s2,a2,m2,c2,rfl,-⟩:=r.j;obtain⟨⟨aq,bi⟩,aM,aO,ab⟩:=Ub w aC)|(go_at_call 80;(with_reducible refine(ul _ (I #[Z X s',O a' m' c']) (I #[Z X s3,O a3 m3 c3]) q.num (p.den:Int) ?_ ?_ ak.o j.o).mono ?_);(refine aB.ext ?_;exact eA);(refine u.ext ?_;exact eA);rintro e w4 ⟨r4,rfl,x,aE⟩;obtain⟨s4,a4,m4,c4,rfl,-⟩:=x.j;obtain⟨⟨au,bk⟩,aR,aS,ad⟩:=Ub w aE)|(go_at_call 169;(with_reducible refine(xK _ (I #[Z X s2,O a2 m2 c2]) (I #[Z X s4,O a4 m4 c4]) (p.num*q.den) (q.num*p.den) ?_ ?_ l.o n.o).mono ?_);(refine r.ext ?_;exact eA);(refine x.ext ?_;exact eA);rintro e w5 ⟨r5,rfl,y,aF⟩;obtain⟨s5,a5,m5,c5,rfl,-⟩:=y.j;obtain⟨⟨av,bl⟩,aT,aU,ae⟩:=Ub w aF)|(go_at_call 80;(with_reducible refine(ul _ (I #[Z X s6,O a6 m6 c6]) (I #[Z X s7,O a7 m7 c7]) (p.den:Int) (q.den:Int) ?_ ?_ j.o k.o).mono ?_);(refine z.ext ?_;exact eA);(refine K.ext ?_;exact eA);rintro e w8 ⟨r8,rfl,P,aI⟩;obtain⟨s8,a8,m8,c8,rfl,-⟩:=P.j;obtain⟨⟨ay,bo⟩,aZ,a0,ah⟩:=Ub w aI)|(go_at_call 146;(with_reducible refine(sF _ (I #[Z X s5,O a5 m5 c5]) (I #[Z X s8,O a8 m8 c8]) (p.num*q.den+q.num*p.den) ((p.den:Int)*q.den) ?_ ?_ ao.o an.o (iE p q)).mono ?_);(refine y.ext ?_;exact eA);(refine P.ext ?_;exact eA);rintro e w9 ⟨r9,rfl,R,aJ⟩;obtain⟨s9,a9,m9,c9,t9,e9,i9,j9,rfl⟩:=R.form;obtain⟨⟨az,bp⟩,ba,bb,ai⟩:=Ub w aJ))
 all_goals go_wp2
 refine bR (v:=I #[Z X s9,O a9 m9 c9,Z X t9,O e9 i9 j9]) (by simp[results,Tryz.results100,go_sem,ap,aq,ar,au,av,aw,ax,ay,az,aa,ab,ac,ad,ae,af,ag,ah,ai]) rfl ⟨_,rfl,?_,eA⟩;rw[<-Qx];exact R.keep kA
def SN w va vb p q(ha:Gb w va p)(hb:Gb w vb q)(b:Rb Xc p)(d:Rb Xc q):Calls Tryz.prog 101 #[va,vb] w (Lc w (p*q)):=by
 obtain⟨s,a,m,c,t,ea,em,ec,rfl⟩:=ha.form;obtain⟨s',a',m',c',t',f,i,g,rfl⟩:=hb.form;have aE:=ka b;have aF:=ka d;have ak:=ha.top;have al:=hb.top;have K:Ta (Lm kc p.num):=ka (b.1.mono dM);have P:Ta (Lm kc q.num):=ka (d.1.mono dM);have R:Ta (Lm kc (p.den:Int)):=ka (b.2.mono dM);have aa:Ta (Lm kc (q.den:Int)):=ka (d.2.mono dM);have ab:Ta (Lm Qc (p.num*q.den)):=ka ((b.1.mul d.2).mono dM);have ac:Ta (Lm Qc (q.num*p.den)):=ka ((d.1.mul b.2).mono dM);have ad:Ta (Lm Qc (p.num*q.num)):=ka ((b.1.mul d.1).mono dM);have ae:Ta (Lm Qc ((p.den:Int)*q.den)):=ka ((b.2.mul d.2).mono dM);have aG:Ta (Lm Qc ((p.den:Int)*q.num)):=ka ((b.2.mul d.1).mono dM);have aq:Ta (Lm kc (p.num*q.den)):=ka (ab.o.mono dM);have ar:Ta (Lm kc (q.num*p.den)):=ka (ac.o.mono dM);have aH:Ta (Lm Qc (p.num*q.den+q.num*p.den)):=ka (((b.1.mul d.2).add (d.1.mul b.2)).mono dM);clear b d;go_in;go_wp2;go_region_held3 (fun W=>W.cell? ⟨w.heap.size,0,Y⟩=J (Z X s)/\W.cell? ⟨w.heap.size,1,Y⟩=J (O a m c)/\W.cell? ⟨w.heap.size,2,Y⟩=J (Z X t)/\W.cell? ⟨w.heap.size,3,Y⟩=J (O ea em ec)/\W.cell? ⟨w.heap.size+1,0,Y⟩=J (Z X s')/\W.cell? ⟨w.heap.size+1,1,Y⟩=J (O a' m' c')/\W.cell? ⟨w.heap.size+1,2,Y⟩=J (Z X t')/\W.cell? ⟨w.heap.size+1,3,Y⟩=J (O f i g)) ((repeat' (with_reducible refine And.intro ?_ ?_))<;>(first|(go_simp;done)|(refine hx1.d ?_;go_simp;done))) (first|(go_at_call 80;(with_reducible refine(ul _ (I #[Z X s,O a m c]) (I #[Z X s',O a' m' c']) p.num q.num ?_ ?_ K.o P.o).mono ?_);(refine ak.ext ?_;exact eA);(refine al.ext ?_;exact eA);rintro e w1 ⟨r1,rfl,j,hx1⟩;obtain⟨s1,a1,m1,c1,rfl,-⟩:=j.j;obtain⟨⟨af,aI⟩,au,av,r⟩:=Ub w hx1)|(go_at_call 81;(with_reducible refine(Dl _ (I #[Z X s,O a m c,Z X t,O ea em ec]) p ?_).mono ?_);(refine ha.ext ?_;exact eA);rintro e w2 ⟨r2,rfl,k,am⟩;obtain⟨s2,a2,m2,c2,rfl,-⟩:=k.j;obtain⟨⟨ag,aJ⟩,aw,ax,u⟩:=Ub w am)|(go_at_call 81;(with_reducible refine(Dl _ (I #[Z X s',O a' m' c',Z X t',O f i g]) q ?_).mono ?_);(refine hb.ext ?_;exact eA);rintro e w3 ⟨r3,rfl,l,an⟩;obtain⟨s3,a3,m3,c3,rfl,-⟩:=l.j;obtain⟨⟨ah,aK⟩,ay,az,x⟩:=Ub w an)|(go_at_call 80;(with_reducible refine(ul _ (I #[Z X s2,O a2 m2 c2]) (I #[Z X s3,O a3 m3 c3]) (p.den:Int) (q.den:Int) ?_ ?_ R.o aa.o).mono ?_);(refine k.ext ?_;exact eA);(refine l.ext ?_;exact eA);rintro e w4 ⟨r4,rfl,n,ao⟩;obtain⟨s4,a4,m4,c4,rfl,-⟩:=n.j;obtain⟨⟨ai,aL⟩,aA,aB,y⟩:=Ub w ao)|(go_at_call 146;(with_reducible refine(sF _ (I #[Z X s1,O a1 m1 c1]) (I #[Z X s4,O a4 m4 c4]) (p.num*q.num) ((p.den:Int)*q.den) ?_ ?_ ad.o ae.o (iE p q)).mono ?_);(refine j.ext ?_;exact eA);(refine n.ext ?_;exact eA);rintro e w9 ⟨r9,rfl,o,ap⟩;obtain⟨s9,a9,m9,c9,t9,e9,i9,j9,rfl⟩:=o.form;obtain⟨⟨aj,aM⟩,aC,aD,z⟩:=Ub w ap))
 all_goals go_wp2
 refine bR (v:=I #[Z X s9,O a9 m9 c9,Z X t9,O e9 i9 j9]) (by simp[results,Tryz.results101,go_sem,af,ag,ah,ai,aj,r,u,x,y,z]) rfl ⟨_,rfl,?_,eA⟩;rw[<-Px];exact o.keep kA
def yG w va vb p q(ha:Gb w va p)(hb:Gb w vb q)(b:Rb Xc p)(d:Rb Xc q)(hq:q≠0):Calls Tryz.prog 150 #[va,vb] w (Lc w (p/q)):=by
 have ae:Ta ((p.den:Int)*q.num≠0):=ka (by
  have h1:q.num≠0:=fun h=>hq ((DL q).1 h);have h2:=Zf p;intro h;rcases Int.mul_eq_zero.1 h with h|h
  ·omega
  ·exact h1 h)
 clear hq;obtain⟨s,a,m,c,t,ea,em,ec,rfl⟩:=ha.form;obtain⟨s',a',m',c',t',g,j,i,rfl⟩:=hb.form;have aE:=ka b;have aF:=ka d;have ak:=ha.top;have al:=hb.top;have P:Ta (Lm kc p.num):=ka (b.1.mono dM);have R:Ta (Lm kc q.num):=ka (d.1.mono dM);have aa:Ta (Lm kc (p.den:Int)):=ka (b.2.mono dM);have ab:Ta (Lm kc (q.den:Int)):=ka (d.2.mono dM);have f:Ta (Lm Qc (p.num*q.den)):=ka ((b.1.mul d.2).mono dM);have ac:Ta (Lm Qc (q.num*p.den)):=ka ((d.1.mul b.2).mono dM);have aG:Ta (Lm Qc (p.num*q.num)):=ka ((b.1.mul d.1).mono dM);have aH:Ta (Lm Qc ((p.den:Int)*q.den)):=ka ((b.2.mul d.2).mono dM);have ad:Ta (Lm Qc ((p.den:Int)*q.num)):=ka ((b.2.mul d.1).mono dM);have aq:Ta (Lm kc (p.num*q.den)):=ka (f.o.mono dM);have ar:Ta (Lm kc (q.num*p.den)):=ka (ac.o.mono dM);have aI:Ta (Lm Qc (p.num*q.den+q.num*p.den)):=ka (((b.1.mul d.2).add (d.1.mul b.2)).mono dM);clear b d;go_in;go_wp2;go_region_held3 (fun W=>W.cell? ⟨w.heap.size,0,Y⟩=J (Z X s)/\W.cell? ⟨w.heap.size,1,Y⟩=J (O a m c)/\W.cell? ⟨w.heap.size,2,Y⟩=J (Z X t)/\W.cell? ⟨w.heap.size,3,Y⟩=J (O ea em ec)/\W.cell? ⟨w.heap.size+1,0,Y⟩=J (Z X s')/\W.cell? ⟨w.heap.size+1,1,Y⟩=J (O a' m' c')/\W.cell? ⟨w.heap.size+1,2,Y⟩=J (Z X t')/\W.cell? ⟨w.heap.size+1,3,Y⟩=J (O g j i)) ((repeat' (with_reducible refine And.intro ?_ ?_))<;>(first|(go_simp;done)|(refine hx1.d ?_;go_simp;done))) (first|(go_at_call 81;(with_reducible refine(Dl _ (I #[Z X s',O a' m' c',Z X t',O g j i]) q ?_).mono ?_);(refine hb.ext ?_;exact eA);rintro e w1 ⟨r1,rfl,k,hx1⟩;obtain⟨s1,a1,m1,c1,rfl,-⟩:=k.j;obtain⟨⟨af,aJ⟩,au,av,u⟩:=Ub w hx1)|(go_at_call 80;(with_reducible refine(ul _ (I #[Z X s,O a m c]) (I #[Z X s1,O a1 m1 c1]) p.num (q.den:Int) ?_ ?_ P.o ab.o).mono ?_);(refine ak.ext ?_;exact eA);(refine k.ext ?_;exact eA);rintro e w2 ⟨r2,rfl,l,am⟩;obtain⟨s2,a2,m2,c2,rfl,-⟩:=l.j;obtain⟨⟨ag,aK⟩,aw,ax,x⟩:=Ub w am)|(go_at_call 81;(with_reducible refine(Dl _ (I #[Z X s,O a m c,Z X t,O ea em ec]) p ?_).mono ?_);(refine ha.ext ?_;exact eA);rintro e w3 ⟨r3,rfl,n,an⟩;obtain⟨s3,a3,m3,c3,rfl,-⟩:=n.j;obtain⟨⟨ah,aL⟩,ay,az,y⟩:=Ub w an)|(go_at_call 80;(with_reducible refine(ul _ (I #[Z X s3,O a3 m3 c3]) (I #[Z X s',O a' m' c']) (p.den:Int) q.num ?_ ?_ aa.o R.o).mono ?_);(refine n.ext ?_;exact eA);(refine al.ext ?_;exact eA);rintro e w4 ⟨r4,rfl,o,ao⟩;obtain⟨s4,a4,m4,c4,rfl,-⟩:=o.j;obtain⟨⟨ai,aM⟩,aA,aB,z⟩:=Ub w ao)|(go_at_call 146;(with_reducible refine(sF _ (I #[Z X s2,O a2 m2 c2]) (I #[Z X s4,O a4 m4 c4]) (p.num*q.den) ((p.den:Int)*q.num) ?_ ?_ f.o ad.o ae.o).mono ?_);(refine l.ext ?_;exact eA);(refine o.ext ?_;exact eA);rintro e w9 ⟨r9,rfl,r,ap⟩;obtain⟨s9,a9,m9,c9,t9,e9,i9,j9,rfl⟩:=r.form;obtain⟨⟨aj,aO⟩,aC,aD,K⟩:=Ub w ap))
 all_goals go_wp2
 refine bR (v:=I #[Z X s9,O a9 m9 c9,Z X t9,O e9 i9 j9]) (by simp[results,Tryz.results150,go_sem,af,ag,ah,ai,aj,u,x,y,z,K]) rfl ⟨_,rfl,?_,eA⟩;rw[<-Wp];exact r.keep kA
def mQ w va vb p q(ha:Gb w va p)(hb:Gb w vb q)(g:Rb Xc p)(i:Rb Xc q):Calls Tryz.prog 102 #[va,vb] w (Lc w (p-q)):=by
 obtain⟨s,a,m,c,t,P,em,R,rfl⟩:=ha.form;obtain⟨s',z,m',K,t',b,f,d,rfl⟩:=hb.form;have o:=ka g;have r:=ka i.neg;clear g i;rw[Rat.sub_eq_add_neg];go_in;go_wp2;go_region_held3 (fun W=>W.cell? ⟨w.heap.size,0,Y⟩=J (Z X s)/\W.cell? ⟨w.heap.size,1,Y⟩=J (O a m c)/\W.cell? ⟨w.heap.size,2,Y⟩=J (Z X t)/\W.cell? ⟨w.heap.size,3,Y⟩=J (O P em R)/\W.cell? ⟨w.heap.size+1,0,Y⟩=J (Z X s')/\W.cell? ⟨w.heap.size+1,1,Y⟩=J (O z m' K)/\W.cell? ⟨w.heap.size+1,2,Y⟩=J (Z X t')/\W.cell? ⟨w.heap.size+1,3,Y⟩=J (O b f d)) ((repeat' (with_reducible refine And.intro ?_ ?_))<;>(first|(go_simp;done)|(refine hx1.d ?_;go_simp;done))) (first|(go_at_call 170;(with_reducible refine(uG _ (I #[Z X s',O z m' K,Z X t',O b f d]) q ?_).mono ?_);(refine hb.ext ?_;exact eA);rintro e w1 ⟨r1,rfl,j,hx1⟩;obtain⟨s1,a1,m1,c1,t1,e1,i1,j1,rfl⟩:=j.form;obtain⟨⟨u,ae⟩,aa,ab,l⟩:=Ub w hx1)|(go_at_call 100;(with_reducible refine(LC _ (I #[Z X s,O a m c,Z X t,O P em R]) (I #[Z X s1,O a1 m1 c1,Z X t1,O e1 i1 j1]) p (-q) ?_ ?_ o.o r.o).mono ?_);(refine ha.ext ?_;exact eA);(refine j.ext ?_;exact eA);rintro e w9 ⟨r9,rfl,k,y⟩;obtain⟨s9,a9,m9,c9,t9,e9,i9,j9,rfl⟩:=k.form;obtain⟨⟨x,af⟩,ac,ad,n⟩:=Ub w y))
 all_goals go_wp2
 exact bR (v:=I #[Z X s9,O a9 m9 c9,Z X t9,O e9 i9 j9]) (by simp[results,Tryz.results102,go_sem,u,x,l,n]) rfl ⟨_,rfl,k.keep kA,eA⟩
