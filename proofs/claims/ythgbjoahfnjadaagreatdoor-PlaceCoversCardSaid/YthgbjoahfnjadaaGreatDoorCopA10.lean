import Derived.Test.YthgbjoahfnjadaaGreatDoorCopA09
set_option maxRecDepth 1000000
set_option maxHeartbeats 16000000
set_option linter.all false
open Go.Value renaming slice->O,int->I,pointer->F,agg->H,bool->D
open Go renaming World->Y,Value->Z,Addr->S
open Option renaming none->V,some->M
open Go.IntKind renaming i64->N
open Go.Obj renaming cells->Q
namespace Go.Proofs.YthgbjoahfnjadaaGreatDoor.Cop
section
open Go.RowKit Go.Shelf
attribute [local go_sem] Oper.semAt_some
abbrev Lp:Nat:=300000
def TI(w:Y)(va:Z)(f:Nat)(ha:Tc w va f)(hl:Lm mc f):Calls Tryz.prog 164 #[va] w fun e w'=>e=.returned (.string ⟨(Lg f).toArray⟩)/\oa w w':=by
 obtain⟨a0,m0,c0,rfl⟩:=ha.form;have Hl:=ia hl;have Ha:=ia ha;obtain⟨Tx,ah⟩:=gX (Lg f);rw[ah];have al:=ia ah;clear ha hl ah;go_in;go_wp2;go_loopg [3] f (mv w f)
 case atStart=>exact⟨f,f+1,[],a0,m0,c0,rfl,by omega,by rw[List.append_nil],by simp,by simp,fun s hs=>(by cases hs),(eR _).alloc _,aN _ _,Ha.o.ext ((eR _).alloc _),Ga.nil _ _ _ _,by simp⟩
 case round =>
  obtain⟨n,k,ps,a,m,c,hg,hk,ac,ai,ad,h7,hx,hb,hd,ho,hz⟩:=hrel;have Hx:=ia hx;have Hd:=ia hd;have k1:=cell_of_one hb;have kf:=free_of_one hb;have kf:=free_of_one hb;by_cases h0:n=0
  ·have aE:((n:Int)==0)=true:=by simp[h0]
   have ax:Va (f+1) f=ps:=by rw[ac,h0,Ou,List.nil_append]
   have HJ:=ia (fun(W:Y)(hW:oa wr W)=>lH W u3 w.heap.size ps (ho.ext hW) ai h7);obtain⟨va,vn,vc,rfl⟩:=ho.j;obtain⟨T,hT⟩:=gX (Lib.trimLeftB ps.flatten 48);have ay:Tx=if T=[]then [48]else T:=by rw[<-al.o];unfold Lg;rw[ax,hT]
   have HT:=ia hT;have am:=ia ay;clear hg hk ac ai ad h7 hd ho ax hT ay al;cases T with
   |nil=>
    go_wp2_with(first|((go_at_call 97;(with_reducible refine(Ti _ (H #[O a m c]) n ?_).mono ?_);(refine Hd.o.ext ?_;exact eA);rintro e w1 ⟨rfl,ae⟩))|(go_at_call 211;refine cM (HJ.o _ eA) ?_;rintro e l ⟨rfl,af⟩)|(go_at_call 210;(with_reducible refine(Tryz.strings_TrimLeft_one _ 48 dM _).mono ?_);rintro e w3 ⟨rfl,rfl⟩;rw[HT.o]));go_ret;(have e:Tx=[48]:=by have:=am.o;simpa using this);exact⟨by rw[e];rfl,Hx.o.trans eA⟩
   | cons t T =>
    go_wp2_with(first|((go_at_call 97;(with_reducible refine(Ti _ (H #[O a m c]) n ?_).mono ?_);(refine Hd.o.ext ?_;exact eA);rintro e w1 ⟨rfl,ae⟩))|(go_at_call 211;refine cM (HJ.o _ eA) ?_;rintro e l ⟨rfl,af⟩)|(go_at_call 210;(with_reducible refine(Tryz.strings_TrimLeft_one _ 48 dM _).mono ?_);rintro e w3 ⟨rfl,rfl⟩;rw[HT.o]));go_ret;(have e:Tx=t::T:=by have:=am.o;simpa using this);exact⟨by rw[e];rfl,Hx.o.trans eA⟩
  ·have aE:((n:Int)==0)=false:=by simp[h0]
   obtain⟨k',an,ao,ap,au⟩:=mv.step Hl.o h0 hk ac ad;have av:Lm Qc (n:Int):=by
    have h9:=Hl.o;have h8:n<=f:=nT (Nat.le_mul_of_pos_right _ (Nat.pow_pos dM)) ad;have h7:Lm Qc (f:Int):=h9.mono dM;exact⟨by have:=h7.1;have:(0:Int)<=B ^ Qc:=Int.le_of_lt (tj Yh _);omega,by have:=h7.2;omega⟩
   have aC:=ia av;have ag:zc (n/10000000<k'/\Va (f+1) f=Va k' (n/10000000)++(Rf (n%10000000)::ps)/\(Rf (n%10000000)::ps).length<=2*mc/\n/10000000*2 ^ (23*(Rf (n%10000000)::ps).length)<=f):=ia ⟨an,ao,ap,au⟩;have aB:=ia (show Lm Qc 10000000 from Lm.mono (j:=1) ⟨by decide,by decide⟩ dM);clear av an ao ap au ac ai ad;obtain⟨g,aO⟩:=gX (n%10000000);have aQ:(n:Int)%10000000=(g:Int):=oM;have aw:Lm 2 (g:Int):=⟨by unfold B;omega,by unfold B;omega⟩;have aD:=ia aw;clear aw;go_upto_region 5 with (first|((go_at_call 97;(with_reducible refine(Ti _ (H #[O a m c]) n ?_).mono ?_);(refine Hd.o.ext ?_;exact eA);rintro e w1 ⟨rfl,ae⟩;obtain⟨aG,aJ⟩:=ae.cells;(have z1:w.heap.size<w1.heap.size:=by have:=ae.size;omega)))|((go_at_call 192;(with_reducible refine(Fy _ (H #[O a m c]) (H #[O (M ⟨w1.heap.size,0,V⟩) 1 1]) n 10000000 ?_ ?_ aC.o aB.o dM).mono ?_);(refine Hd.o.ext ?_;exact eA);(exact xE w1 dM dM);rintro e l ⟨q,r,rfl,hq,hr,af⟩;rw[aQ]at hr;obtain⟨⟨aq,mq,cq,rfl⟩,⟨ar,mr,cr,rfl⟩⟩:=And.intro hq.z.form hr.z.form;obtain⟨aH,aK⟩:=af.cells;(have z2:w.heap.size<l.heap.size:=by have:=af.size;simp only[wZ]at this;omega)))|((go_at_call 175;(with_reducible refine(Kr _ (H #[O ar mr cr]) (g:Int) ?_ aD.o).mono ?_);(refine hr.z.ext ?_;exact eA);rintro e w3 ⟨rfl,aj⟩;(have z3:l.heap.size+1+1<=w3.heap.size:=by have:=aj.size;simp only[wZ]at this;omega))));clear aG aJ aH aK;have X3:oa wr w3:=eA;obtain⟨wo,rfl⟩:∃W,W=wr:=⟨_,rfl⟩;have aT:=AL;go_wp2;go_loopg [6,25] 7 (OL w3 g w3.heap.size)
   case atStart=>exact⟨0,by omega,rfl,rfl,by rw[Nat.pow_zero,Nat.div_one],(eR _).alloc _,aN _ _⟩
   case round =>
    obtain⟨i,hi,aS,rfl,rfl,d,R⟩:=hrel;by_cases aL:i<7
    ·obtain⟨x,ak⟩:=gX (g/10 ^ i);rw[ak];have aU:x<10000000:=by
      have:g/10 ^ i<=g:=Nat.div_le_self _ _;omega
     obtain⟨j,hj⟩:=gX (6-i);obtain⟨u,hu⟩:∃u,(ji g i)[j]?=M u:=⟨_,Array.getElem?_eq_getElem (by unfold ji;rw[List.size_toArray,lL,Ux];omega)⟩;have ki:=Gb R hu;have aX:=Vb R;(have e6:IntKind.i64.wrap (6-(i:Int))=(j:Int):=by rw[iW _ oM];omega);obtain⟨y,hy⟩:=gX (48+x%10);(have e7:IntKind.u64.wrap (48+(x:Int)%10)=(y:Int):=by rw[IntWalk.u64_in _ oM];omega);have e8:IntKind.u8.wrap (y:Int)=(y:Int):=IntWalk.u8_in _ oM;have z9:=d.size;go_wp2;go_roundg (7-(i+1))
     case measure=>omega
     case rel =>
      refine⟨i+1,by omega,rfl,by go_num,?_,d.set (nE _) _,?_⟩
      ·rw[show g/10 ^ (i+1)=x/10 by rw[Nat.pow_succ,<-Nat.div_div_eq_div_mul,ak]];simp
      ·have h9:=IG g aL;rw[ak,hy,hj]at h9;rw[<-h9];simp[World.setCell,Array.getElem?_modify,R]
    ·obtain rfl:i=7:=oM;have aA:=ia R;clear R;go_upto_region 12 with fail;have aI:(convert 272 9 (O (M ⟨w3.heap.size,0,V⟩) 7 7)).run Tryz.prog wr.drew = .ok (.string ⟨(Rf g).toArray⟩) wr.drew:=Rp (W:=wr.drew) aA.o;have c4:wr.cell? ⟨l.heap.size,0,V⟩=M (O aq mq cq):=by
      (have h1:(l.alloc (Q #[O aq mq cq] 39)).cell? ⟨l.heap.size,0,V⟩=M (O aq mq cq):=by go_simp);exact d.d (aj.d (oa.d ((eR _).alloc _) h1))
     refine Ke [(⟨l.heap.size,0,V⟩,O aq mq cq)] cA fun b=>?_;refine Ac (i:=0) ?_;refine Ac (i:=3) ?_;refine Ac (i:=5) ?_;refine Je (i:=1) fun K o=>?_;go_simp;refine kO o b (fun b=>?_);clear o K aI;refine Je (i:=2) fun K o=>?_;go_simp;refine kO o (cE b ((eR _).alloc _)) (fun b=>?_);clear o K;refine Je (i:=4) fun K o=>?_;have hA:oa w wr:=Hx.o.trans (X3.trans d);refine VH (T:=9) (t:=271) (z:=.string ⟨#[]⟩) (k:=1) (bytes:=16) (v:=O (M ⟨wr.heap.size,0,V⟩) 1 1) (base:=w.heap.size) nH rfl dM dM Tryz.underlying271 rfl _ _ rfl rfl (JD (Rf g) hA.size) rfl (ps.map sc) ED ((ho.ext (((X3.trans d).alloc _).drew)).rd) DD ?_ ?_ ?_
     ·rw[lL,List.length_singleton];have h9:=ag.o.2.2.1;unfold mc at h9;rw[List.length_cons]at h9;omega
     ·have:=hA.size;simp only[Tb,wZ];omega
     intro v' w9 ab aa aR;obtain⟨a9,n9,c9,rfl⟩:=ab.j;(have zb:l.heap.size<wr.heap.size:=by have:=d.size;omega);refine kO o (Ca.grown b aa (fun q hq e=>?_)) (fun b=>?_)
     ·have h9:wr.heap.size=l.heap.size:=by
       simp at hq;subst hq;exact Option.some.inj e.symm
      omega
     clear o K;have X9:oa wr w9:=(((eR wr).alloc (Q #[.string ⟨(Rf g).toArray⟩] 9)).drew).E (Ch (base:=wr.heap.size) aa (by simp only[Tb,wZ];omega) (fun k hk=>by cases hk;exact nE _)) (nE _);have P:w9.heap[w.heap.size]?=M (Q #[O a m c] 39 (0,0)):=((X3.trans d).trans X9).e hb;have aV:=cell_of_one P;have aW:=free_of_one P;refine Ac (i:=6) ?_;have aP:Tc w9 (H #[O aq mq cq]) ((n/10000000:Nat):Int):=by
      (have h9:Tc l (H #[O aq mq cq]) ((n/10000000:Nat):Int):=by rw[show ((n/10000000:Nat):Int)=(n:Int)/10000000 by omega];exact hq.z);exact((h9.ext ((((eR _).alloc _).alloc _).trans aj)).ext d).ext X9
     have hT:Fa 2 w9 (w9.setCell ⟨w.heap.size,0,V⟩ (O aq mq cq)):=(Fa.refl _ w9).set P dM _;have aF:Fa 9 w9 (w9.setCell ⟨w.heap.size,0,V⟩ (O aq mq cq)):=(Fa.refl _ w9).set P dM _;have aM:∀q∈[((⟨l.heap.size,0,V⟩:S),Value.slice aq mq cq)],(⟨w.heap.size,0,V⟩:S).block≠q.1.block:=by
      intro q hq;simp at hq;subst hq;dsimp only;omega
     refine Je (i:=7) fun K o=>?_;go_simp;refine kO o (Ca.set b aM _) (fun b=>?_);clear o K;refine Wd ?_;go_wp2;have az:=ia P;go_roundg (n/10000000)
     case measure=>omega
     case rel =>
      obtain⟨g1,g2,g3,g4⟩:=ag.o;rw[aO]at g2 g3 g4;refine⟨n/10000000,k',Rf g::ps,aq,mq,cq,rfl,g1,g2,g3,g4,?_,?_,?_,?_,?_,?_⟩
      ·intro s hs;rcases List.mem_cons.1 hs with rfl|hs
       ·rfl
       ·exact h7 s hs
      ·exact oa.set (p:=⟨w.heap.size,0,V⟩) (hA.trans X9) (nE _) _
      ·exact one_setCell az.o
      ·exact aP.keep hT
      ·exact ab.keep aF
      ·have:=hA.size;have:=X9.size;simp;omega
end
section
open Go.RowKit Go.Shelf Go.Sort Go.Lib
def Na(s:Sp):Rat×Rat:=Sc (Db s) (Jb s)
def Ol(s:Sp):Jb s≠[]:=by unfold Jb;intro h;have b:Qa s=[]:=List.map_eq_nil_iff.1 h;unfold Qa at b;have d:=rJ (zs:=Af (s.lo::s.hi::If s (s.over++s.under))) (by intro e;have:=congrArg List.length e;rw[jp]at this;simp at this);exact d b
def js(w:Y)(y z:Z)(s:Sp)(u:Aa w y s.over)(x:Aa w z s.under)(f:Dg s):Calls Tryz.prog 83 #[Lh s y z] w (Gj w (Na s).1 (Na s).2):=by
 have HS:=ia (fun(W:Y)(r:oa w W)=>Zy W y z s (u.i r) (x.i r) f);have T:=ia (fun(W:Y)(r:oa w W)(v:Z)(hv:Wf W v (Jb s))=>YG W v y z s (Jb s) hv (u.i r) (x.i r) f (Vi f));obtain⟨a1,m1,rfl⟩:=u.form;obtain⟨a2,m2,rfl⟩:=x.form;obtain⟨n1,f1⟩:=gX s.over.length;obtain⟨n2,f2⟩:=gX s.under.length;obtain⟨lo,o⟩:=gX s.lo;obtain⟨hi,n⟩:=gX s.hi;obtain⟨R,hR⟩:=gX (Gj w (Na s).1 (Na s).2);rw[hR];have HR:=ia hR;unfold Lh at HS T ⊢;simp only[f1,f2,o,n]at HS T ⊢;clear u x f f1 f2 o n hR;have ah:∀(fn:Fn)(first cap:Array Z)(w:Y),(Instr.makeFunc fn first cap).run Tryz.prog w = .ok (.func fn first cap) w:=fun _ _ _ _=>rfl;go_in;go_wp2;refine Ke [(⟨w.heap.size,0,V⟩,O a1 n1 m1),(⟨w.heap.size,1,V⟩,O a2 n2 m2),(⟨w.heap.size,2,V⟩,I N lo),(⟨w.heap.size,3,V⟩,I N hi)] cA fun d=>?_;refine Ac (i:=0) ?_;refine sN 2 ?_
 iterate 2 refine Fc ?_
 refine oN ?_;refine Ec (i:=1) (HS.o _ eA) ?_;rintro e w3 ⟨r3,rfl,aa,l⟩;refine⟨_,rfl,(cE d l),fun d=>?_⟩;have X3:oa w w3:=eA;refine Ec (i:=4) (T.o _ X3 _ aa.rs) ?_;rintro e w4 ⟨r4,r5,rfl,j,k,g⟩;obtain⟨⟨a4,m4,c4,s4,b4,n4,k4,rfl⟩,a5,m5,c5,s5,b5,n5,k5,rfl⟩:=And.intro j.form k.form;refine⟨_,rfl,(cE d g),fun d=>?_⟩;refine sN 5 ?_
 iterate 2 refine Fc ?_
 refine oN ?_;have X4:oa w w4:=X3.trans g;have hO:RB w4 (w.heap.size+1) 0:=(((RB.new (La.zero _) sM).ext ((eR _).alloc _)).ext ((eR _).drew.trans l)).ext g;have hP:RB w4 (w.heap.size+1+1) 0:=((RB.new (La.zero _) sM).ext ((eR _).drew.trans l)).ext g;obtain⟨_,_,_,_,_,_,_,o0,o1,o2,ab,ac,ad,zo,_⟩:=hO.rd;obtain⟨_,_,_,_,_,_,_,p0,p1,p2,ae,af,ag,zp,_⟩:=hP.rd;have t:∀b,w.heap.size<b->∀q∈[((⟨w.heap.size,0,V⟩:S),Value.slice a1 n1 m1),(⟨w.heap.size,1,V⟩,O a2 n2 m2),(⟨w.heap.size,2,V⟩,I N lo),(⟨w.heap.size,3,V⟩,I N hi)],b≠q.1.block:=by
  intro b hb;simp;omega
 refine Je (i:=7) fun K p=>?_;go_simp;refine kO p (Ca.set3 d (t _ oM) _ _ _) (fun d=>?_);clear p K;refine Je (i:=8) fun K p=>?_;go_simp;refine kO p (Ca.set3 d (t _ oM) _ _ _) (fun d=>?_);clear p K;refine Wd ?_;have P:=ia (RB.copy2 hO hP oM j k rfl rfl);go_wp2;refine bR (v:=.tuple #[H #[O a4 m4 c4,D s4,O b4 n4 k4],H #[O a5 m5 c5,D s5,O b5 n5 k5]]) (by simp[results,Tryz.results83,go_sem,o0,o1,o2,ab,ac,ad,p0,p1,p2,ae,af,ag]) rfl ?_;rw[<-HR.o];obtain⟨P1,P2,P3,P4,P5,P6⟩:=P.o;exact⟨_,_,rfl,j.keep P4,k.keep P4,P6 w X4 oM oM⟩
def Fd(ps b:LP):Bool:=if (Ic ps b).lo<(Ic ps b).hi then decide (0<=(Na (Ic ps b)).2.num.sign)else true
def St(w:Y)(u x:Z)(ps f:LP)(r:Aa w u ps)(t:Aa w x f)(k1:Fb ps)(k2:Fb f):Calls Tryz.prog 158 #[u,x] w fun e w'=>e=.returned (D (Fd ps f))/\oa w w':=by
 have l1:0<ps.length:=List.length_pos_iff.2 k1.1;have l2:0<f.length:=List.length_pos_iff.2 k2.1;have b:=ia (fun(W:Y)(n:oa w W)=>Cp W u x ps f (r.i n) (t.i n) l1 l2);have p:=ia (fun(W:Y)(n:oa w W)=>js W u x (Ic ps f) (r.i n) (t.i n) (gl k1 k2));obtain⟨B,y⟩:=gX (Fd ps f);rw[y];have g:=ia y;unfold Fd at g;obtain⟨s,hs⟩:=gX (Ic ps f);rw[hs]at g b p;obtain⟨a1,m1,rfl⟩:=r.form;obtain⟨a2,m2,rfl⟩:=t.form;obtain⟨n1,f1⟩:=gX ps.length;obtain⟨n2,f2⟩:=gX f.length;obtain⟨lo,l⟩:=gX s.lo;obtain⟨P,j⟩:=gX s.hi;unfold Ij at b;unfold Lh at b p;simp only[f1,f2,l,j]at g b p ⊢;clear r t k1 k2 l1 l2 y hs f1 f2 l j;by_cases d:lo<P
 ·have e:decide (lo<P)=true:=by simpa using d
  rw[if_pos d]at g;rw[e]at b;obtain⟨k,R⟩:=gX ((Na s).2.num.sign);rw[R]at g;have Hk:=ia R;clear R e d;go_in;go_wp2_with(first|(go_at_call 82;refine cM (b.o _ eA) ?_;rintro e w3 ⟨rfl,i⟩;obtain⟨z,K⟩:=i.cells)|(go_at_call 83;refine cM (p.o _ eA) ?_;rintro e w4 ⟨r4,r5,rfl,T,o,aa⟩;obtain⟨a4,m4,c4,s4,b4,n4,k4,rfl⟩:=T.form;obtain⟨a5,m5,c5,s5,b5,n5,k5,rfl⟩:=o.form)|(go_at_call 20;(with_reducible refine(Xl _ _ _ (o.ext ?_)).mono ?_);exact eA;rintro e w6 ⟨rfl,ab⟩;rw[Hk.o]));go_ret;exact⟨by rw[<-g.o];rfl,eA⟩
 ·have e:decide (lo<P)=false:=by simpa using d
  rw[if_neg d]at g;rw[e]at b;clear e d;go_in;go_wp2_with(first|(go_at_call 82;refine cM (b.o _ eA) ?_;rintro e w3 ⟨rfl,i⟩;obtain⟨z,K⟩:=i.cells));go_ret;exact⟨by rw[<-g.o];rfl,eA⟩
end
section
open Go.RowKit Go.Shelf
attribute [local go_sem] Oper.semAt_some
def Kg(n:Int):List UInt8:=if n<0 then 45::Lg n.natAbs else Lg n.natAbs
def lh(q:Rat):List UInt8:=if q.den=1 then Kg q.num else Kg q.num++(47::Kg q.den)
def vj(x z:Rat):List UInt8:=40::(lh x++(44::32::(lh z++[41])))
def tB:∀(k n:Nat),n<k->n≠0->0<(Va k n).length/\2 ^ (23*((Va k n).length-1))<=n
 | 0,_,h,_=>by omega
 | k+1,n,h,f=>by
  rw[Va,if_neg f,lA,List.length_singleton];refine⟨by omega,?_⟩;rw[Nat.add_sub_cancel];by_cases d:n/10000000=0
  ·rw[d,Ou];simp;omega
  ·obtain⟨e,b⟩:=tB k (n/10000000) oM d;obtain⟨L,g⟩:∃L,(Va k (n/10000000)).length=L+1:=⟨_,(Nat.succ_pred_eq_of_pos e).symm⟩;rw[g]at b ⊢;rw[Nat.add_sub_cancel]at b;rw[Nat.mul_add,Nat.pow_add,show (2:Nat) ^ (23*1)=8388608 from rfl];have:n/10000000*8388608<=n:=oM;exact nT (Nat.mul_le_mul_right _ b) this
def YB:∀(k n:Nat),∀s∈Va k n,s.length=7
 | 0,_,s,h=>by simp[Va]at h
 | k+1,n,s,h=>by
  unfold Va at h;split at h
  ·cases h
  ·rcases List.mem_append.1 h with h|h
   ·exact YB k _ s h
   ·rw[List.mem_singleton.1 h];rfl
def Vt{n:Nat}(h:Lm mc (n:Int)):(Lg n).length<=20*mc:=by
 have j:(Va (n+1) n).length<=2*mc:=by
  by_cases f:n=0
  ·rw[f,Ou];exact Nat.zero_le _
  ·obtain⟨i,g⟩:=tB (n+1) n oM f;have b:(n:Int)<B ^ mc:=h.2;have e:(B:Int) ^ mc=((2 ^ (24*mc):Nat):Int):=by
    rw[Nat.pow_mul];unfold B;rw[Int.natCast_pow];rfl
   rw[e]at b;have d:n<2 ^ (24*mc):=by exact_mod_cast b
   have o:23*((Va (n+1) n).length-1)<24*mc:=(Nat.pow_lt_pow_iff_right (by decide:1<2)).1 (Nat.lt_of_le_of_lt g d);unfold mc at *;omega
 have k:=Fk (YB (n+1) n);have l:(Lib.trimLeftB (Va (n+1) n).flatten 48).length<=(Va (n+1) n).flatten.length:=List.IsSuffix.length_le (List.dropWhile_suffix _);unfold Lg;split
 ·unfold mc;simp
 ·omega
def Nr{n:Int}(h:Lm mc n):(Kg n).length<=21*mc:=by
 have:=Vt (n:=n.natAbs) h.abs;unfold Kg;split
 ·rw[List.length_cons];unfold mc at *;omega
 ·omega
def Uz{q:Rat}(h:Rb mc q):(lh q).length<=43*mc:=by
 have b:=Nr h.1;have d:=Nr h.2;unfold lh;split
 ·omega
 ·rw[lA,List.length_cons];unfold mc at *;omega
def Nm(a b:List UInt8):(⟨a.toArray⟩:ByteArray)++(⟨b.toArray⟩:ByteArray)=⟨(a++b).toArray⟩:=by apply ByteArray.ext;rw[ByteArray.data_append];simp
def Lz(w:Y)(v:Z)(n:Int)(h:Nc w v n)(f:Lm mc n):Calls Tryz.prog 98 #[v] w fun e w'=>e=.returned (.string ⟨(Kg n).toArray⟩)/\oa w w':=by
 obtain⟨a,m,c,s,rfl⟩:=h.form;have i:=ia (fun(W:Y)(l:oa w W)=>TI W (H #[O a m c]) n.natAbs (h.dig.ext l) f.abs);have j:=h.sgn;unfold Kg;clear h;cases s with
 |true=>
  have g:n<0:=by simpa using j.symm
  rw[if_pos g];obtain⟨T,b⟩:=gX (Lg n.natAbs);rw[b]at i ⊢;have d:T.length<=20*mc:=by rw[<-b];exact Vt f.abs
  unfold mc at d;clear j g b f;go_in;go_wp2_with((go_at_call 164;refine cM (i.o _ eA) ?_;rintro e o ⟨rfl,k⟩));go_ret;exact⟨by rw[show (⟨#[45]⟩:ByteArray)=⟨[45].toArray⟩from rfl,Nm];rfl,eA⟩
 |false=>
  have g:¬n<0:=by simpa using j.symm
  rw[if_neg g];obtain⟨T,b⟩:=gX (Lg n.natAbs);rw[b]at i ⊢;have d:T.length<=20*mc:=by rw[<-b];exact Vt f.abs
  unfold mc at d;clear j g b f;go_in;go_wp2_with((go_at_call 164;refine cM (i.o _ eA) ?_;rintro e o ⟨rfl,k⟩));go_ret;exact⟨rfl,eA⟩
end
section
open Go.RowKit Go.Shelf Go.Sort Go.Lib
def Ee(p q:Pl):Int:=
 if Ma (za p)<=Ka (za q)then 1
 else if Ma (za q)<=Ka (za p)then 2
 else if Fd (za p) (Ra q)then 3
 else if Fd (za q) (Ra p)then 4
 else 5
def nj(w:Y)(c:List Z)(p:Pl):Prop:=∃v vl vu,c=(Jd p v vl vu).toList/\Aa w v p.shape/\Aa w vl (za p)/\Aa w vu (Ra p)
def Qd(w:Y)(v:Z)(p:Pl):Prop:=∃s vl vu,v=H (Jd p s vl vu)/\Aa w s p.shape/\Aa w vl (za p)/\Aa w vu (Ra p)
def Qd.ext{w w':Y}{v:Z}{p:Pl}(h:Qd w v p)(k:oa w w'):Qd w' v p:=by obtain⟨s,g,i,b,d,e,f⟩:=h;exact⟨s,g,i,b,d.i k,e.i k,f.i k⟩
def Qd.keep{w w':Y}{v:Z}{p:Pl}(h:Qd w v p)(k:Fa 55 w w'):Qd w' v p:=by obtain⟨s,g,i,b,d,e,f⟩:=h;exact⟨s,g,i,b,d.G k,e.G k,f.G k⟩
abbrev Ub(w:Y)(v:Z)(ps:List Pl):Prop:=Sl 118 12 nj w v ps
def nj.ext{w w':Y}{c:List Z}{p:Pl}(h:nj w c p)(k:oa w w'):nj w' c p:=by obtain⟨s,g,i,b,d,e,f⟩:=h;exact⟨s,g,i,b,d.i k,e.i k,f.i k⟩
def nj.keep{w w':Y}{c:List Z}{p:Pl}(h:nj w c p)(k:Fa 55 w w'):nj w' c p:=by obtain⟨s,g,i,b,d,e,f⟩:=h;exact⟨s,g,i,b,d.G k,e.G k,f.G k⟩
def Ub.i{w w':Y}{v:Z}{ps:List Pl}(h:Ub w v ps)(k:oa w w'):Ub w' v ps:=Sl.ext h (fun _ _ h=>nj.ext h k) k
def Pu(w:Y)(v1 v2:Z)(p q:Pl)(h1:Qd w v1 p)(h2:Qd w v2 q)(k1:Ea p=true)(k2:Ea q=true):Calls Tryz.prog 85 #[v1,v2] w fun e w'=>e=.returned (I .u8 (Ee p q))/\oa w w':=by
 obtain⟨s1,l1,u1,rfl,p1,R,p3⟩:=h1;obtain⟨s2,l2,u2,rfl,q1,T,q3⟩:=h2;obtain⟨o1,o2⟩:=rj k1;obtain⟨o3,o4⟩:=rj k2;have HA:=ia (fun(W:Y)(g:oa w W)=>Vn W l1 (za p) (R.i g) (List.length_pos_iff.2 o1.1));have HB:=ia (fun(W:Y)(g:oa w W)=>Qm W l2 (za q) (T.i g) (List.length_pos_iff.2 o3.1));have HC:=ia (fun(W:Y)(g:oa w W)=>Qm W l1 (za p) (R.i g) (List.length_pos_iff.2 o1.1));have HD:=ia (fun(W:Y)(g:oa w W)=>Vn W l2 (za q) (T.i g) (List.length_pos_iff.2 o3.1));have HE:=ia (fun(W:Y)(g:oa w W)=>St W l1 u2 (za p) (Ra q) (R.i g) (q3.i g) o1 o4);have HF:=ia (fun(W:Y)(g:oa w W)=>St W l2 u1 (za q) (Ra p) (T.i g) (p3.i g) o3 o2);obtain⟨av,ay,rfl⟩:=p1.form;obtain⟨aw,aA,rfl⟩:=q1.form;obtain⟨a1,c1,rfl⟩:=R.form;obtain⟨a2,c2,rfl⟩:=T.form;obtain⟨aa,ac,rfl⟩:=p3.form;obtain⟨ab,ad,rfl⟩:=q3.form;obtain⟨k,hk⟩:=gX (Ee p q);have j:=ia hk;unfold Ee at j;rw[hk];obtain⟨n1,f1⟩:=gX ((za p).length);obtain⟨n2,f2⟩:=gX ((za q).length);obtain⟨m1,f3⟩:=gX ((Ra p).length);obtain⟨m2,f4⟩:=gX ((Ra q).length);obtain⟨j1,f5⟩:=gX p.shape.length;obtain⟨j2,f6⟩:=gX q.shape.length;obtain⟨rp,f7⟩:=gX (Ma (za p));obtain⟨lp,f8⟩:=gX (Ka (za p));obtain⟨rq,f9⟩:=gX (Ma (za q));obtain⟨lq,x⟩:=gX (Ka (za q));obtain⟨fa,y⟩:=gX (Fd (za p) (Ra q));obtain⟨fb,z⟩:=gX (Fd (za q) (Ra p));simp only[f1,f2,f3,f4,f5,f6,f7,f8,f9,x,y,z]at HA HB HC HD HE HF j ⊢;obtain⟨nm,sh,d,de,gx,gz,wy,ax,az,sk⟩:=p;obtain⟨au,aB,d',ap,aq,ar,aD,aj,ak,aC⟩:=q;clear hk p1 R p3 q1 T q3 o1 o2 o3 o4 k1 k2 f1 f2 f3 f4 f5 f6 f7 f8 f9 x y z;unfold Jd;dsimp only;go_in;go_wp2;refine Ke [(⟨w.heap.size,10,V⟩,O a1 n1 c1),(⟨w.heap.size+1,10,V⟩,O a2 n2 c2),(⟨w.heap.size,11,V⟩,O aa m1 ac),(⟨w.heap.size+1,11,V⟩,O ab m2 ad)] cA fun b=>?_;refine sN 0 ?_
 iterate 2 refine Fc ?_
 refine oN ?_;refine sN 3 ?_
 iterate 2 refine Fc ?_
 refine oN ?_;refine Ec (i:=2) (HA.o _ eA) ?_;rintro e w3 ⟨rfl,K⟩;refine⟨_,rfl,(cE b K),fun b=>?_⟩;have X3:oa w w3:=eA;refine Ec (i:=5) (HB.o _ X3) ?_;rintro e w4 ⟨rfl,l⟩;refine⟨_,rfl,(cE b l),fun b=>?_⟩;have X4:oa w w4:=X3.trans l;refine sN 6 ?_
 iterate 2 refine Fc ?_
 refine oN ?_;refine Wd ?_;obtain⟨al,am,an,ao,_⟩:=b;(try clear K);clear l X3;by_cases g1:rp<=lq
 ·go_wp2;go_ret;exact⟨by rw[<-j.o,if_pos g1];rfl,X4⟩
 rw[if_neg g1]at j;have aE:=X4.size;go_wp2;refine Ke [(⟨w.heap.size,10,V⟩,O a1 n1 c1),(⟨w.heap.size+1,10,V⟩,O a2 n2 c2),(⟨w.heap.size,11,V⟩,O aa m1 ac),(⟨w.heap.size+1,11,V⟩,O ab m2 ad)] cA fun b=>?_;refine sN 0 ?_
 iterate 2 refine Fc ?_
 refine oN ?_;refine sN 3 ?_
 iterate 2 refine Fc ?_
 refine oN ?_;refine Ec (i:=2) (HC.o _ eA) ?_;rintro e w5 ⟨rfl,P⟩;refine⟨_,rfl,(cE b P),fun b=>?_⟩;have X5:oa w w5:=eA;refine Ec (i:=5) (HD.o _ X5) ?_;rintro e w6 ⟨rfl,n⟩;refine⟨_,rfl,(cE b n),fun b=>?_⟩;have X6:oa w w6:=X5.trans n;refine sN 6 ?_
 iterate 2 refine Fc ?_
 refine oN ?_;refine Wd ?_;obtain⟨o,r,t,u,_⟩:=b;(try clear P);clear n X5;by_cases g2:rq<=lp
 ·go_wp2;go_ret;exact⟨by rw[<-j.o,if_pos g2];rfl,X6⟩
 rw[if_neg g2]at j;cases fa with
 |true=>
  go_wp2_with(go_at_call 158;refine cM (HE.o _ eA) ?_;rintro e w7 ⟨rfl,f⟩);go_ret;exact⟨by rw[<-j.o];rfl,eA⟩
 |false=>
  cases fb with
  |true=>
   go_wp2_with(first|(go_at_call 158;(with_reducible refine(HE.o _ ?_).mono ?_);exact eA;rintro e w7 ⟨rfl,f⟩;have ae:=f.d o;have af:=f.d r;have ag:=f.d t;have ah:=f.d u)|(go_at_call 158;(with_reducible refine(HF.o _ ?_).mono ?_);exact eA;rintro e w8 ⟨rfl,ai⟩));go_ret;exact⟨by rw[<-j.o];rfl,eA⟩
  |false=>
   go_wp2_with(first|(go_at_call 158;(with_reducible refine(HE.o _ ?_).mono ?_);exact eA;rintro e w7 ⟨rfl,f⟩;have ae:=f.d o;have af:=f.d r;have ag:=f.d t;have ah:=f.d u)|(go_at_call 158;(with_reducible refine(HF.o _ ?_).mono ?_);exact eA;rintro e w8 ⟨rfl,ai⟩));go_ret;exact⟨by rw[<-j.o];rfl,eA⟩
def Ub.at'{w:Y}{a:Option S}{n c:Nat}{ps:List Pl}(h:Ub w (O a n c) ps){i:Nat}{p:Pl}(t:ps[i]?=M p):∃b o s vl vu,a=M ⟨b,o,V⟩/\b<w.heap.size/\Aa w s p.shape/\Aa w vl (za p)/\Aa w vu (Ra p)/\∀(j:Nat) u,(Jd p s vl vu)[j]?=M u->w.cell? ⟨b,o+i*12+j,V⟩=M u:=by obtain⟨b,o,d,rfl,k,x,⟨s,vl,vu,rfl,e,f,g⟩,l⟩:=Sl.at h t;exact⟨b,o,s,vl,vu,rfl,k,e,f,g,fun j u r=>l j u (by rw[Array.getElem?_toList];exact r)⟩
def Rs(W:Y)(b:Nat)(p:Pl)(s d e:Z):Prop:=W.heap[b]?=M (Q (Jd p s d e) 118 (0,0))/\Aa W s p.shape/\Aa W d (za p)/\Aa W e (Ra p)
def Rs.ext{W W':Y}{b:Nat}{p:Pl}{s d e:Z}(h:Rs W b p s d e)(k:oa W W'):Rs W' b p s d e:=⟨k.e h.1,h.2.1.i k,h.2.2.1.i k,h.2.2.2.i k⟩
def Tf(q p:Pl):Bool:=jd q p&&(Ee q p==5)
def qg(b:ByteArray)(p:Pl):Bool:=p.name.toList==b.toList
def FF(w:Y)(o:Z)(p:Pl)(j:ByteArray)(b:Nat)(h:Qd w o p)(r:w.cell? ⟨b,0,V⟩=M (.string j)):Calls Tryz.prog 173 #[o,F (M ⟨b,0,V⟩)] w fun e w'=>e=.returned (D (qg j p))/\oa w w':=by obtain⟨s1,l1,u1,rfl,k,l,n⟩:=h;obtain⟨t,u,rfl⟩:=k.form;obtain⟨K,T,rfl⟩:=l.form;obtain⟨x,y,rfl⟩:=n.form;obtain⟨n1,f⟩:=gX ((za p).length);obtain⟨m1,g⟩:=gX ((Ra p).length);obtain⟨j1,i⟩:=gX p.shape.length;rw[f,g,i];obtain⟨np,sh,d,W,gx,gz,wy,P,R,sk⟩:=p;clear k l n f g i;have zq:b<w.heap.size:=World.block_lt_of_cell? w _ r;have z:b<w.heap.size+1:=oM;unfold Jd qg;dsimp only;go_in;go_wp2;go_ret;exact⟨rfl,eA⟩
def WG(w:Y)(vp:Z)(p q:Pl)(j:Nat)(s vl vu:Z)(h:Qd w vp p)(hq:Rs w j q s vl vu)(k1:Ea p=true)(k2:Ea q=true):Calls Tryz.prog 174 #[vp,F (M ⟨j,0,V⟩)] w fun e w'=>e=.returned (D (Tf q p))/\oa w w':=by
 obtain⟨b,l,K,P⟩:=hq;have i:=ia (fun(W:Y)(k:oa w W)=>Pu W (H (Jd q s vl vu)) vp q p ⟨_,_,_,rfl,l.i k,K.i k,P.i k⟩ (h.ext k) k2 k1);obtain⟨s1,l1,u1,rfl,z,p2,p3⟩:=h;have f:=ia (fun(W:Y)=>jo W q p s s1 (by obtain⟨a,c,h⟩:=l.form;exact⟨a,_,c,h⟩) (by obtain⟨a,c,h⟩:=z.form;exact⟨a,_,c,h⟩));obtain⟨av,aw,rfl⟩:=z.form;obtain⟨a1,c1,rfl⟩:=p2.form;obtain⟨aA,aB,rfl⟩:=p3.form;obtain⟨R,T,rfl⟩:=l.form;obtain⟨a2,c2,rfl⟩:=K.form;obtain⟨ab,ac,rfl⟩:=P.form;obtain⟨n1,f1⟩:=gX ((za p).length);obtain⟨n2,f2⟩:=gX ((za q).length);obtain⟨m1,f3⟩:=gX ((Ra p).length);obtain⟨m2,f4⟩:=gX ((Ra q).length);obtain⟨j1,f5⟩:=gX p.shape.length;obtain⟨j2,f6⟩:=gX q.shape.length;obtain⟨r,f7⟩:=gX (Ee q p);obtain⟨m,f8⟩:=gX (jd q p);unfold Tf;simp only[f1,f2,f3,f4,f5,f6,f7,f8]at i f b ⊢;obtain⟨nm,sh,d,de,gx,gz,wy,ax,az,sk⟩:=p;obtain⟨y,ay,d',t,u,x,ad,n,o,aa⟩:=q;unfold Jd at i b ⊢;unfold pe at f;dsimp only at i f b ⊢;have ag:=ja b 0 (.string y);have ah:=ja b 1 (O R j2 T);have ai:=ja b 2 (I N d');have aj:=ja b 3 (I N t);have ak:=ja b 4 (I N u);have al:=ja b 5 (I N x);have am:=ja b 6 (I N ad);have an:=ja b 7 (I N n);have ao:=ja b 8 (I N o);have ap:=ja b 9 (I .u8 aa);have ae:=ja b 10 (O a2 n2 c2);have af:=ja b 11 (O ab m2 ac);have zq:j<w.heap.size:=jc b;have aC:j<w.heap.size+1:=oM;clear b z p2 p3 l K P k1 k2 f1 f2 f3 f4 f5 f6 f7 f8;cases m with
 |false=>
  go_in;go_wp2_with(go_at_call 108;refine cM (f.o _) ?_;rintro e w3 ⟨rfl,g⟩);go_ret;exact⟨rfl,eA⟩
 |true=>
  go_in;go_wp2_with(first|(go_at_call 108;refine cM (f.o _) ?_;rintro e w3 ⟨rfl,g⟩;obtain⟨aq,ar⟩:=g.cells)|(go_at_call 85;refine cM (i.o _ eA) ?_;rintro e w4 ⟨rfl,au⟩));go_ret;exact⟨rfl,eA⟩
def DC(w:Y)(f:Pl->Bool)(ps:List Pl)(g:Nat)(b:Z)(W:Y):Prop:=
 ∃i:Nat,i<=ps.length/\b=I N i/\g=ps.length-i/\oa w W/\∀j y,j<i->ps[j]?=M y->f y=false
def XI(w:Y)(v:Z)(ps:List Pl)(bq:Nat)(f:Pl->Bool)(h:Ub w v ps)(hf:∀W,oa w W->∀vp p,p∈ps->Qd W vp p->Calls Tryz.prog 173 #[vp,F (M ⟨bq,0,V⟩)] W fun e w'=>e=.returned (D (f p))/\oa W w'):Calls Tryz.prog 214 #[v,.func (.func 173) #[] #[F (M ⟨bq,0,V⟩)]] w fun e w'=>e=.returned (I N (oe f ps))/\oa w w':=by
 obtain⟨a,c,rfl⟩:=h.form;obtain⟨n,hn⟩:=gX ps.length;rw[hn]at h ⊢;have t:=h.le;unfold maxLen at t;have au:n<=9223372036854775807:=oM;have k:=ia hn;have Hf:=ia hf;clear hn t hf;go_in;go_wp2;go_loopg [8] n (DC w f ps)
 case atStart=>exact⟨0,by omega,rfl,by rw[k.o];rfl,eR _,fun j y z=>by omega⟩
 case round =>
  obtain⟨i,hi,rfl,rfl,hx,l⟩:=hrel;rw[k.o]at hi;have g:=ia l;clear l;by_cases ab:i<n
  ·obtain⟨p,K⟩:∃q,ps[i]?=M q:=⟨ps[i]'(by rw[k.o];omega),by simp[k.o,ab]⟩;obtain⟨b,o,s,vl,vu,rfl,hb,R,T,d3,d⟩:=(h.i hx).at' K;have r:=ia (fun W (x:oa wr W)=>Hf.o W (hx.trans x) (H (Jd p s vl vu)) p (lM K) ⟨_,_,_,rfl,R.i x,T.i x,d3.i x⟩);obtain⟨ad,ae,rfl⟩:=R.form;obtain⟨a1,c1,rfl⟩:=T.form;obtain⟨af,ag,rfl⟩:=d3.form;obtain⟨n1,f1⟩:=gX ((za p).length);obtain⟨m1,f3⟩:=gX ((Ra p).length);obtain⟨j1,f5⟩:=gX p.shape.length;obtain⟨fp,f7⟩:=gX (f p);rw[f1,f3,f5]at d r;rw[f7]at r;have F7:=ia f7;have P:=d 0 (.string p.name) rfl;have aj:=d 1 (O ad j1 ae) rfl;have ak:=d 2 (I N p.depth) rfl;have al:=d 3 (I N p.density) rfl;have am:=d 4 (I N p.gx) rfl;have an:=d 5 (I N p.gz) rfl;have ao:=d 6 (I N p.way) rfl;have ap:=d 7 (I N p.ax) rfl;have aq:=d 8 (I N p.az) rfl;have ar:=d 9 (I .u8 p.skin) rfl;have ah:=d 10 (O a1 n1 c1) rfl;have ai:=d 11 (O af m1 ag) rfl;simp only[Nat.add_zero]at P;have Hq:=ia K;unfold Jd at r;clear K d R T d3 f1 f3 f5 f7;cases fp with
   |true=>
    have e:oe f ps=(i:Int):=Er Hq.o F7.o g.o;have E:=ia e;clear e;go_wp2_with(((go_at_call 173;refine cM (r.o _ eA) ?_;rintro e w1 ⟨rfl,ac⟩)));go_ret;exact⟨by rw[E.o];rfl,eA⟩
   |false=>
    go_wp2_with(((go_at_call 173;refine cM (r.o _ eA) ?_;rintro e w1 ⟨rfl,ac⟩)));go_roundg (n-(i+1))
    case measure=>have:=k.o;omega
    case rel =>
     refine⟨i+1,by have:=k.o;omega,by go_num,by rw[k.o],eA,fun j y z u=>?_⟩;by_cases aa:j=i
     ·subst aa;rw[Hq.o]at u;cases u;exact F7.o
     ·exact g.o j y oM u
  ·obtain rfl:i=n:=oM;have e:oe f ps = -1:=Fr (fun j y z u=>g.o j y (by rw[k.o]at z;exact z) u);have E:=ia e;clear e;go_wp2;go_ret;exact⟨by rw[E.o];rfl,hx⟩
def lI(w:Y)(v:Z)(ps:List Pl)(b:Nat)(f:Pl->Bool)(h:Ub w v ps)(j:∀W,oa w W->∀vp p,p∈ps->Qd W vp p->Calls Tryz.prog 173 #[vp,F (M ⟨b,0,V⟩)] W fun e w'=>e=.returned (D (f p))/\oa W w'):Calls Tryz.prog 172 #[v,.func (.func 173) #[] #[F (M ⟨b,0,V⟩)]] w fun e w'=>e=.returned (D (ps.any f))/\oa w w':=by
 rw[<-Rt];obtain⟨x,k⟩:=gX (oe f ps);have i:=fun W (g:oa w W)=>XI W v ps b f (h.i g) (fun W' d=>j W' (g.trans d));obtain⟨a,n,c,rfl⟩:∃a n c,v=O a n c:=by obtain⟨a,c,h⟩:=h.form;exact⟨a,_,c,h⟩
 rw[k]at *;have l:=ia i;clear i k h j;go_in;go_wp2_with(((go_at_call 214;refine cM (l.o _ eA) ?_;rintro e r ⟨rfl,o⟩)));go_ret;exact⟨rfl,eA⟩
def ZI(w:Y)(v:Z)(ps:List Pl)(bq:Nat)(f:Pl->Bool)(h:Ub w v ps)(hf:∀W,oa w W->∀vp p,p∈ps->Qd W vp p->Calls Tryz.prog 174 #[vp,F (M ⟨bq,0,V⟩)] W fun e w'=>e=.returned (D (f p))/\oa W w'):Calls Tryz.prog 214 #[v,.func (.func 174) #[] #[F (M ⟨bq,0,V⟩)]] w fun e w'=>e=.returned (I N (oe f ps))/\oa w w':=by
 obtain⟨a,c,rfl⟩:=h.form;obtain⟨n,hn⟩:=gX ps.length;rw[hn]at h ⊢;have t:=h.le;unfold maxLen at t;have au:n<=9223372036854775807:=oM;have k:=ia hn;have Hf:=ia hf;clear hn t hf;go_in;go_wp2;go_loopg [8] n (DC w f ps)
 case atStart=>exact⟨0,by omega,rfl,by rw[k.o];rfl,eR _,fun j y z=>by omega⟩
 case round =>
  obtain⟨i,hi,rfl,rfl,hx,l⟩:=hrel;rw[k.o]at hi;have g:=ia l;clear l;by_cases ab:i<n
  ·obtain⟨p,K⟩:∃q,ps[i]?=M q:=⟨ps[i]'(by rw[k.o];omega),by simp[k.o,ab]⟩;obtain⟨b,o,s,vl,vu,rfl,hb,R,T,d3,d⟩:=(h.i hx).at' K;have r:=ia (fun W (x:oa wr W)=>Hf.o W (hx.trans x) (H (Jd p s vl vu)) p (lM K) ⟨_,_,_,rfl,R.i x,T.i x,d3.i x⟩);obtain⟨ad,ae,rfl⟩:=R.form;obtain⟨a1,c1,rfl⟩:=T.form;obtain⟨af,ag,rfl⟩:=d3.form;obtain⟨n1,f1⟩:=gX ((za p).length);obtain⟨m1,f3⟩:=gX ((Ra p).length);obtain⟨j1,f5⟩:=gX p.shape.length;obtain⟨fp,f7⟩:=gX (f p);rw[f1,f3,f5]at d r;rw[f7]at r;have F7:=ia f7;have P:=d 0 (.string p.name) rfl;have aj:=d 1 (O ad j1 ae) rfl;have ak:=d 2 (I N p.depth) rfl;have al:=d 3 (I N p.density) rfl;have am:=d 4 (I N p.gx) rfl;have an:=d 5 (I N p.gz) rfl;have ao:=d 6 (I N p.way) rfl;have ap:=d 7 (I N p.ax) rfl;have aq:=d 8 (I N p.az) rfl;have ar:=d 9 (I .u8 p.skin) rfl;have ah:=d 10 (O a1 n1 c1) rfl;have ai:=d 11 (O af m1 ag) rfl;simp only[Nat.add_zero]at P;have Hq:=ia K;unfold Jd at r;clear K d R T d3 f1 f3 f5 f7;cases fp with
   |true=>
    have e:oe f ps=(i:Int):=Er Hq.o F7.o g.o;have E:=ia e;clear e;go_wp2_with(((go_at_call 174;refine cM (r.o _ eA) ?_;rintro e w1 ⟨rfl,ac⟩)));go_ret;exact⟨by rw[E.o];rfl,eA⟩
   |false=>
    go_wp2_with(((go_at_call 174;refine cM (r.o _ eA) ?_;rintro e w1 ⟨rfl,ac⟩)));go_roundg (n-(i+1))
    case measure=>have:=k.o;omega
    case rel =>
     refine⟨i+1,by have:=k.o;omega,by go_num,by rw[k.o],eA,fun j y z u=>?_⟩;by_cases aa:j=i
     ·subst aa;rw[Hq.o]at u;cases u;exact F7.o
     ·exact g.o j y oM u
  ·obtain rfl:i=n:=oM;have e:oe f ps = -1:=Fr (fun j y z u=>g.o j y (by rw[k.o]at z;exact z) u);have E:=ia e;clear e;go_wp2;go_ret;exact⟨by rw[E.o];rfl,hx⟩
def nI(w:Y)(v:Z)(ps:List Pl)(b:Nat)(f:Pl->Bool)(h:Ub w v ps)(j:∀W,oa w W->∀vp p,p∈ps->Qd W vp p->Calls Tryz.prog 174 #[vp,F (M ⟨b,0,V⟩)] W fun e w'=>e=.returned (D (f p))/\oa W w'):Calls Tryz.prog 172 #[v,.func (.func 174) #[] #[F (M ⟨b,0,V⟩)]] w fun e w'=>e=.returned (D (ps.any f))/\oa w w':=by
 rw[<-Rt];obtain⟨x,k⟩:=gX (oe f ps);have i:=fun W (g:oa w W)=>ZI W v ps b f (h.i g) (fun W' d=>j W' (g.trans d));obtain⟨a,n,c,rfl⟩:∃a n c,v=O a n c:=by obtain⟨a,c,h⟩:=h.form;exact⟨a,_,c,h⟩
 rw[k]at *;have l:=ia i;clear i k h j;go_in;go_wp2_with(((go_at_call 214;refine cM (l.o _ eA) ?_;rintro e r ⟨rfl,o⟩)));go_ret;exact⟨rfl,eA⟩
end
section
open Go.RowKit Go.Shelf
attribute [local go_sem] Oper.semAt_some
def Bv(w:Y)(G:Nat)(g:Nat)(W:Y):Prop:=
 ∃x y:Int,0<=x/\0<=y/\Int.gcd x y=G/\g=y.toNat/\Lm Lp x/\Lm Lp y/\oa w W/\NB W w.heap.size x/\NB W (w.heap.size+1) y/\
  W.heap[w.heap.size+1+1]?=M (Q #[I N 0,O V 0 0] 46 (0,0))
def Bv.ext{w W W':Y}{G g:Nat}(h:Bv w G g W)(k:oa W W'):Bv w G g W':=by obtain⟨x,y,d,e,f,i,j,h6,l,n,o,b⟩:=h;exact⟨x,y,d,e,f,i,j,h6,l.trans k,n.ext k,o.ext k,k.e b⟩
def Dz(w:Y)(v:Z)(q:Rat)(h:La w v q)(g:Rb mc q):Calls Tryz.prog 31 #[v] w fun e w'=>e=.returned (.string ⟨(lh q).toArray⟩)/\oa w w':=by
 obtain⟨a,m,c,s,a2,m2,c2,rfl⟩:=h.form;have j:=ia (fun(W:Y)(p:oa w W)=>Ti W (H #[O a2 m2 c2]) _ (h.rest.ext p));have z:=ia (fun(W:Y)(p:oa w W)=>Lz W (H #[O a m c,D s]) q.num (h.top.ext p) g.1);have R:=ia (fun(W:Y)(p:oa w W)=>im W _ q (h.ext p) (g.mono dM));have y:=ia (fun(W:Y)(v:Z)(hv:Nc W v (q.den:Int))=>Lz W v (q.den:Int) hv g.2);have l1:=Nr g.1;have l2:=Nr g.2;unfold lh;obtain⟨T,n⟩:=gX (Kg q.num);obtain⟨T2,o⟩:=gX (Kg (q.den:Int));rw[n]at z l1 ⊢;rw[o]at y l2 ⊢;unfold mc at l1 l2;obtain⟨d,hd⟩:=gX q.den;rw[hd]at j R y ⊢;clear n o hd h g;by_cases l:d=1
 ·have k:(((d:Nat):Int)-1==0)=true:=by simp[l]
  rw[k]at j;rw[if_pos l];clear k l;go_in;go_wp2_with(first|(go_at_call 97;refine cM (j.o _ eA) ?_;rintro e w1 ⟨rfl,f⟩;obtain⟨K,P⟩:=f.cells)|(go_at_call 98;refine cM (z.o _ eA) ?_;rintro e w2 ⟨rfl,t⟩));go_ret;exact⟨rfl,eA⟩
 ·have k:(((d:Nat):Int)-1==0)=false:=by simp;omega
  rw[k]at j;rw[if_neg l];clear k l;go_in;have g1:¬9223372036854775807<T.length+1:=oM;have g2:¬9223372036854775807<T.length+1+T2.length:=oM;go_upto_region 3 with (first|(go_at_call 97;refine cM (j.o _ eA) ?_;rintro e w1 ⟨rfl,f⟩;obtain⟨K,P⟩:=f.cells));refine Ke [(⟨w.heap.size,0,V⟩,O a m c),(⟨w.heap.size,1,V⟩,D s),(⟨w.heap.size,2,V⟩,O a2 m2 c2)] cA fun b=>?_;refine sN 0 ?_
  iterate 2 refine Fc ?_
  refine oN ?_;refine Ac (i:=4) ?_;refine Ec (i:=2) (z.o _ eA) ?_;rintro e w2 ⟨rfl,t⟩;refine⟨_,rfl,(cE b t),fun b=>?_⟩;have X2:oa w w2:=eA;refine Ac (i:=3) ?_;refine Ec (i:=5) (R.o _ X2) ?_;rintro e w5 ⟨r5,rfl,r,u⟩;obtain⟨a5,m5,c5,s5,rfl⟩:=r.form;refine⟨_,rfl,(cE b u),fun b=>?_⟩;have X5:oa w w5:=X2.trans u;refine Ec (i:=6) (y.o _ _ r) ?_;rintro e w6 ⟨rfl,x⟩;refine⟨_,rfl,(cE b x),fun b=>?_⟩;refine sN 7 ?_
  iterate 2 refine Fc ?_
  refine oN ?_;refine Wd ?_;go_wp2;go_ret;exact⟨by rw[show (⟨#[47]⟩:ByteArray)=⟨[47].toArray⟩from rfl,Nm,Nm];simp,X5.trans x⟩
def Nz(w:Y)(R T:Z)(x z:Rat)(u:La w R x)(y:La w T z)(d:Rb mc x)(f:Rb mc z):∀v,(∃a m c s a2 m2 c2 a' m' c' s' a2' m2' c2',R=H #[O a m c,D s,O a2 m2 c2]/\T=H #[O a' m' c',D s',O a2' m2' c2']/\v=H #[O a m c,D s,O a2 m2 c2,O a' m' c',D s',O a2' m2' c2']) ->Calls Tryz.prog 32 #[v] w fun e w'=>e=.returned (.string ⟨(vj x z).toArray⟩)/\oa w w':=by
 rintro v ⟨a,m,c,s,a2,m2,c2,a',m',c',s',a2',m2',c2',rfl,rfl,rfl⟩;have HX:=ia (fun(W:Y)(n:oa w W)=>Dz W _ x (u.ext n) d);have p:=ia (fun(W:Y)(n:oa w W)=>Dz W _ z (y.ext n) f);have K:=Uz d;have P:=Uz f;unfold vj;obtain⟨l,g⟩:=gX (lh x);obtain⟨r,j⟩:=gX (lh z);rw[g]at HX K ⊢;rw[j]at p P ⊢;unfold mc at K P;clear g j u y d f;have g1:¬9223372036854775807<1+l.length:=oM;have g2:¬9223372036854775807<1+l.length+2:=oM;have g3:¬9223372036854775807<1+l.length+2+r.length:=oM;have g4:¬9223372036854775807<1+l.length+2+r.length+1:=oM;go_in;go_wp2;refine Ke [(⟨w.heap.size,0,V⟩,O a m c),(⟨w.heap.size,1,V⟩,D s),(⟨w.heap.size,2,V⟩,O a2 m2 c2),(⟨w.heap.size,3,V⟩,O a' m' c'),(⟨w.heap.size,4,V⟩,D s'),(⟨w.heap.size,5,V⟩,O a2' m2' c2')] cA fun b=>?_;refine sN 0 ?_
 iterate 2 refine Fc ?_
 refine oN ?_;refine sN 5 ?_
 iterate 2 refine Fc ?_
 refine oN ?_;refine Ec (i:=2) (HX.o _ eA) ?_;rintro e w2 ⟨rfl,o⟩;refine⟨_,rfl,(cE b o),fun b=>?_⟩;have t:oa w w2:=eA;refine sN 3 ?_
 iterate 2 refine Fc ?_
 refine oN ?_;refine Ec (i:=7) (p.o _ t) ?_;rintro e w7 ⟨rfl,k⟩;refine⟨_,rfl,(cE b k),fun b=>?_⟩;refine sN 8 ?_
 iterate 3 refine Fc ?_
 refine oN ?_;refine Wd ?_;go_wp2;go_ret;exact⟨by rw[show (⟨#[40]⟩:ByteArray)=⟨[40].toArray⟩from rfl,show (⟨#[44,32]⟩:ByteArray)=⟨[44,32].toArray⟩from rfl,show (⟨#[41]⟩:ByteArray)=⟨[41].toArray⟩from rfl,Nm,Nm,Nm,Nm];simp,t.trans k⟩
def Wh(w:Y)(v:Z)(q:Rat):Prop:=
 ∃s a m c s2 a2 m2 c2,v=H #[I N s,O a m c,I N s2,O a2 m2 c2]/\Eg w (H #[I N s,O a m c]) q.num/\(Eg w (H #[I N s2,O a2 m2 c2]) (q.den:Int)\/(s2=0/\q.den=1))
section
variable {w w':Y} {v:Z} {q:Rat} {s s2:Int} {a a2:Option S} {m c m2 c2:Nat}
def Wh.ext(h:Wh w v q)(k:oa w w'):Wh w' v q:=by obtain⟨s,a,m,c,s2,a2,m2,c2,rfl,b,d⟩:=h;exact⟨s,a,m,c,s2,a2,m2,c2,rfl,b.ext k,d.imp (·.ext k) id⟩
def Wh.keep(h:Wh w v q)(k:Fa 3 w w'):Wh w' v q:=by obtain⟨s,a,m,c,s2,a2,m2,c2,rfl,b,d⟩:=h;exact⟨s,a,m,c,s2,a2,m2,c2,rfl,b.keep k,d.imp (·.keep k) id⟩
def Wh.form(h:Wh w v q):∃s a m c s2 a2 m2 c2,v=H #[I N s,O a m c,I N s2,O a2 m2 c2]:=by obtain⟨s,a,m,c,s2,a2,m2,c2,rfl,b,d⟩:=h;exact⟨_,_,_,_,_,_,_,_,rfl⟩
def Wh.top(h:Wh w (H #[I N s,O a m c,I N s2,O a2 m2 c2]) q):Eg w (H #[I N s,O a m c]) q.num:=by obtain⟨s,a,m,c,s2,a2,m2,c2,e,b,d⟩:=h;cases e;exact b
def Wh.mk(b:Eg w (H #[I N s,O a m c]) q.num)(d:Eg w (H #[I N s2,O a2 m2 c2]) (q.den:Int)):Wh w (H #[I N s,O a m c,I N s2,O a2 m2 c2]) q:=
 ⟨_,_,_,_,_,_,_,_,rfl,b,.inl d⟩
def Wh.zero(w:Y):Wh w (H #[I N 0,O V 0 0,I N 0,O V 0 0]) 0:=⟨_,_,_,_,_,_,_,_,rfl,Eg.nil w,.inr ⟨rfl,rfl⟩⟩
end
end
section
open Go.RowKit Go.Shelf Go.Sort Go.Lib
def pp{g:LP}(h:ub g=true):Fb g:=by unfold ub at h;rw[Bool.and_eq_true,List.all_eq_true]at h;obtain⟨d,l⟩:=h;unfold xb at d;simp at d;refine⟨fun e=>by subst e;simp at d,fun p n=>?_,by omega⟩;obtain⟨i,k,rfl⟩:=List.mem_iff_getElem.1 n;have b:=l i (List.mem_range.2 k);unfold Qf at b;rw[gD,gE k,Option.getD_some]at b;simp only[Bool.and_eq_true,Bool.not_eq_true']at b;have f:=b.1;have j:=b.2.1;unfold Cb at f j;simp at f j;constructor<;>(unfold Bd;omega)
def fe(g:LP)(p:Pl):Bool:=decide (Ka g<=Ka (za p))&&decide (Ma (za p)<=Ma g)
def kd(g:LP)(ps:List Pl)(p:Pl):Bool:=Fd (za p) g&&!ps.any (Tf p)
def Ia{T:TypeId}{k:Nat}{α:Type}{P:Y->List Z->α->Prop}{w:Y}{v:Z}{xs:List α}(h:Sl T k P w v xs):∃a n c,v=O a n c:=by obtain⟨a,c,h⟩:=h.form;exact⟨a,_,c,h⟩
def WB(w:Y)(l i:Z)(ps:List Pl)(b:ByteArray)(t:∃a n c,l=O a n c)(h:Ub w i ps):Calls Tryz.prog 106 #[H #[l,i],.string b] w fun e w'=>e=.returned (D (ps.any (qg b)))/\oa w w':=by obtain⟨R,gn,T,rfl⟩:=t;have g:=fun W (r:oa w W) (d:Nat) (z:W.cell? ⟨d,0,V⟩=M (.string b))=>lI W i ps d (qg b) (h.i r) (fun W' f P p _ y=>FF W' P p b d y (f.d z));obtain⟨a,n,c,rfl⟩:=Ia h;obtain⟨x,k⟩:=gX (ps.any (qg b));simp only[k]at g ⊢;have o:=ia g;clear g k h;have u:∀(j:Fn)(first cap:Array Z)(w:Y),(Instr.makeFunc j first cap).run Tryz.prog w = .ok (.func j first cap) w:=fun _ _ _ _=>rfl;go_in;go_wp2_with(((go_at_call 172;refine cM (o.o _ eA _ ?_) ?_;(focus(go_simp;done));rintro e w1 ⟨rfl,K⟩)));go_ret;exact⟨rfl,eA⟩
def yA(w:Y)(P R vp:Z)(g:LP)(ps:List Pl)(p:Pl)(r:Aa w P g)(h:Ub w R ps)(hp:Qd w vp p)(k0:Fb g)(k1:∀q∈ps,Ea q=true)(x:Ea p=true):Calls Tryz.prog 107 #[H #[P,R],vp] w fun e w'=>e=.returned (D (kd g ps p))/\oa w w':=by
 obtain⟨s1,y,u1,rfl,z,k,K⟩:=hp;have j:=ia (fun W (f:oa w W) (o:Nat) (hq:W.heap[o]?=M (Q (Jd p s1 y u1) 118 (0,0)))=>nI W R ps o (Tf p) (h.i f) (fun W' b vq q u t=>WG W' vq q p o s1 y u1 t ⟨b.e hq,z.i (f.trans b),k.i (f.trans b),K.i (f.trans b)⟩ (k1 q u) x));have l:=ia (fun W (f:oa w W)=>St W y P (za p) g (k.i f) (r.i f) (rj x).1 k0);obtain⟨ga,gn,gc,rfl⟩:=Ia r;obtain⟨a,n,c,rfl⟩:=Ia h;obtain⟨ae,ag,af,rfl⟩:=Ia z;obtain⟨a1,n1,c1,rfl⟩:=Ia k;obtain⟨ah,aj,ai,rfl⟩:=Ia K;obtain⟨fr,T⟩:=gX (Fd (za p) g);obtain⟨cl,f2⟩:=gX (ps.any (Tf p));unfold kd;rw[T]at l ⊢;rw[f2]at j ⊢;obtain⟨nm,sh,d,de,gx,gz,wy,ax,az,sk⟩:=p;clear T f2 r h z k K k0 k1 x;unfold Jd at j ⊢;dsimp only at j ⊢;have ac:∀(fn:Fn)(first cap:Array Z)(w:Y),(Instr.makeFunc fn first cap).run Tryz.prog w = .ok (.func fn first cap) w:=fun _ _ _ _=>rfl;cases fr with
 |false=>
  go_in;go_wp2_with(go_at_call 158;refine cM (l.o _ eA) ?_;rintro e w1 ⟨rfl,i⟩);go_ret;exact⟨rfl,eA⟩
 |true=>
  go_in;go_wp2_with(first|(go_at_call 158;refine cM (l.o _ eA) ?_;rintro e w1 ⟨rfl,i⟩;obtain⟨aa,ab⟩:=i.cells)|(go_at_call 172;refine cM (j.o _ eA _ ?_) ?_;(exact i.e (Kc _ _ _ sM));rintro e w2 ⟨rfl,ad⟩));go_ret;exact⟨rfl,eA⟩
def oA(w:Y)(u vs vp:Z)(g:LP)(p:Pl)(r:Aa w u g)(h:∃a n c,vs=O a n c)(hp:Qd w vp p)(K:Fb g)(k2:Ea p=true):Calls Tryz.prog 105 #[H #[u,vs],vp] w fun e w'=>e=.returned (D (fe g p))/\oa w w':=by
 obtain⟨s1,l1,u1,rfl,p1,t,p3⟩:=hp;have P:=(rj k2).1;have T:=ia (fun(W:Y)(f:oa w W)=>Qm W u g (r.i f) (List.length_pos_iff.2 K.1));have HB:=ia (fun(W:Y)(f:oa w W)=>Qm W l1 (za p) (t.i f) (List.length_pos_iff.2 P.1));have HC:=ia (fun(W:Y)(f:oa w W)=>Vn W l1 (za p) (t.i f) (List.length_pos_iff.2 P.1));have HD:=ia (fun(W:Y)(f:oa w W)=>Vn W u g (r.i f) (List.length_pos_iff.2 K.1));obtain⟨ga,gn,gc,rfl⟩:=Ia r;obtain⟨a,n,c,rfl⟩:=h;obtain⟨aa,ac,ab,rfl⟩:=Ia p1;obtain⟨a1,n1,c1,rfl⟩:=Ia t;obtain⟨ad,af,ae,rfl⟩:=Ia p3;unfold fe;obtain⟨y,f1⟩:=gX (Ka g);obtain⟨gr,f2⟩:=gX (Ma g);obtain⟨R,f3⟩:=gX (Ka (za p));obtain⟨pr,f4⟩:=gX (Ma (za p));simp only[f1,f2,f3,f4]at T HB HC HD ⊢;obtain⟨nm,sh,d,de,gx,gz,wy,ax,az,sk⟩:=p;clear f1 f2 f3 f4 r p1 t p3 K k2 P;unfold Jd;dsimp only;go_in;go_wp2;refine Ke [(⟨w.heap.size,0,V⟩,O ga gn gc),(⟨w.heap.size+1,10,V⟩,O a1 n1 c1)] cA fun b=>?_;refine sN 0 ?_
 iterate 2 refine Fc ?_
 refine oN ?_;refine sN 3 ?_
 iterate 2 refine Fc ?_
 refine oN ?_;refine Ec (i:=2) (T.o _ eA) ?_;rintro e w3 ⟨rfl,z⟩;refine⟨_,rfl,(cE b z),fun b=>?_⟩;have X3:oa w w3:=eA;refine Ec (i:=5) (HB.o _ X3) ?_;rintro e w4 ⟨rfl,j⟩;refine⟨_,rfl,(cE b j),fun b=>?_⟩;have x:=X3.trans j;refine sN 6 ?_
 iterate 2 refine Fc ?_
 refine oN ?_;by_cases g1:y<=R
 ·have o:decide (y<=R)=true:=by simpa using g1
  rw[o];refine sN 8 ?_
  iterate 2 refine Fc ?_
  refine oN ?_;refine sN 11 ?_
  iterate 2 refine Fc ?_
  refine oN ?_;refine Ec (i:=10) (HC.o _ x) ?_;rintro e w5 ⟨rfl,k⟩;refine⟨_,rfl,(cE b k),fun b=>?_⟩;have X5:=x.trans k;refine Ec (i:=13) (HD.o _ X5) ?_;rintro e w6 ⟨rfl,l⟩;refine⟨_,rfl,(cE b l),fun b=>?_⟩;have X6:=X5.trans l;refine sN 14 ?_
  iterate 3 refine Fc ?_
  refine oN ?_;refine Wd ?_;go_wp2;go_ret;exact⟨by rw[o];rfl,X6⟩
 ·have o:decide (y<=R)=false:=by simpa using g1
  rw[o];refine sN 8 ?_
  iterate 2 refine fi ?_
  refine oN ?_;refine sN 11 ?_
  iterate 2 refine fi ?_
  refine oN ?_;refine Kh (i:=10) ?_;refine sN 13 ?_
  iterate 2 refine fi ?_
  iterate 2 refine Fc ?_
  refine oN ?_;refine Wd ?_;go_wp2;go_ret;exact⟨by simp,x⟩
end
section
open Go.RowKit Go.Shelf
attribute [local go_sem] Oper.semAt_some
abbrev Lx(w:Y):={ x:List Z×Pl // nj w x.1 x.2/\Ea x.2=true }
def uo{w:Y}(x:Lx w):Array Z:=#[H x.1.1.toArray]
def ii(sk:Int)(p:Pl):Bool:=p.skin==sk || p.skin==3
def yg{w:Y}(sk:Int)(zs:List (Lx w)):List (Lx w):=zs.filter fun x=>ii sk x.1.2
def LE{w:Y}{sk:Int}{zs:List (Lx w)}{j:Nat}{x:Lx w}(d:zs[j]?=M x)(h:ii sk x.1.2=true):yg sk (zs.take j)++[x]=yg sk (zs.take (j+1))/\(yg sk (zs.take j)).length<(yg sk zs).length:=by
 have e:yg sk (zs.take j)++[x]=yg sk (zs.take (j+1)):=by
  rw[Xf _ _ _ d];unfold yg;simp[List.filter_append,h]
 refine⟨e,?_⟩;have b:(yg sk (zs.take (j+1))).length<=(yg sk zs).length:=((List.take_prefix (j+1) zs).filter _).length_le;rw[<-e,lA,List.length_singleton]at b;omega
def VC{w:Y}{sk:Int}{zs:List (Lx w)}{j:Nat}{x:Lx w}(b:zs[j]?=M x)(h:ii sk x.1.2=false):yg sk (zs.take (j+1))=yg sk (zs.take j):=by rw[Xf _ _ _ b];unfold yg;simp[List.filter_append,h]
def Uk(w:Y)(a:Option S)(zs:List (Lx w)):Prop:=
 ∀j (x:Lx w),zs[j]?=M x->∃b o,a=M ⟨b,o,V⟩/\b<w.heap.size/\∀i u,x.1.1[i]?=M u->w.cell? ⟨b,o+j*12+i,V⟩=M u
def EE{w:Y}{a:Option S}{n c:Nat}{ps:List Pl}(h:Ub w (O a n c) ps)(r:∀p∈ps,Ea p=true):∃zs:List (Lx w),zs.map (fun x=>x.1.2)=ps/\Uk w a zs:=by
 obtain⟨g,T,t,y,z⟩:=h;have e:∀x∈g.zip ps,nj w x.1 x.2/\Ea x.2=true:=fun x e=>by
  obtain⟨i,d⟩:=List.mem_iff_getElem?.1 e;rw[List.getElem?_zip_eq_some]at d;exact⟨z i _ _ d.1 d.2,r _ (lM d.2)⟩
 refine⟨(g.zip ps).attachWith (fun x=>nj w x.1 x.2/\Ea x.2=true) e,?_,fun j x R=>?_⟩
 ·rw[show (fun x:Lx w=>x.1.2)=Prod.snd ∘ (·.1)from rfl,<-List.map_map,jl e,List.map_snd_zip oM]
 ·have f:(g.zip ps)[j]?=M x.1:=by
   have:=congrArg (Option.map (·.1)) R;rw[<-lP,jl e]at this;exact this
  rw[List.getElem?_zip_eq_some]at f;have d:=(lS.1 f.2).1;obtain⟨b,o,rfl,K,_,P⟩:=y.open oM;have k:=t x.1.1 (lM f.1);refine⟨b,o,rfl,K,fun i u d=>?_⟩;have l:i<12:=by rw[<-k];exact(lS.1 d).1
  have:=P (j*12+i) u (by rw[mo t f.1 l];exact d)
  rwa [<-Nat.add_assoc]at this
def yh(w:Y)(b:Nat)(W W':Y):Prop:=Mc w b W W'/\Mc w (b+1) W W'
def yh.refl(w:Y)(b:Nat)(W:Y):yh w b W W:=⟨Mc.refl _ _ _,Mc.refl _ _ _⟩
def yh.trans{w:Y}{b:Nat}{A B C:Y}(h:yh w b A B)(k:yh w b B C):yh w b A C:=⟨h.1.trans k.1,h.2.trans k.2⟩
def yh.put{w:Y}{d:Nat}{w0:Y}(i:w.heap.size<=w0.heap.size)(j:d+1<w0.heap.size)(W:Y)(l:Nat)(o b:Obj)(g:w0.heap.size<=l)(h:W.heap[l]?=M o)(e:o.isCells=false)(f:o.isWalk=false):yh w d W (W.putObj l b):=
 ⟨Mc.put i oM W l o b g h e f,Mc.put i j W l o b g h e f⟩
def yh.set{w:Y}{b:Nat}{A B:Y}(h:yh w b A B){p:S}(e:w.heap.size<=p.block)(f:p.block≠b)(d:p.block≠b+1)(u:Z):yh w b A (B.setCell p u):=⟨h.1.set e f u,h.2.set e d u⟩
def yh.ext{w:Y}{b:Nat}{A B C:Y}(h:yh w b A B)(k:oa B C)(d:w.heap.size<=B.heap.size)(e:b+1<B.heap.size):yh w b A C:=⟨h.1.ext k d oM,h.2.ext k d e⟩
def UC(w:Y)(b d:Z)(sk:Int)(g:∃a n c,b=O a n c)(j:∃a n c,d=O a n c):Calls Tryz.prog 48 #[H #[b,d],I .u8 sk] w fun e w'=>e=.returned (.func (.func 118) #[] #[F (M ⟨w.heap.size,0,V⟩),F (M ⟨w.heap.size+1,0,V⟩)])/\(w.alloc (Q #[b,d] 110)).alloc (Q #[I .u8 sk] 5)=w':=by have i:∀(f:Fn)(first cap:Array Z)(w:Y),(Instr.makeFunc f first cap).run Tryz.prog w = .ok (.func f first cap) w:=fun _ _ _ _=>rfl;obtain⟨k,o,l,rfl⟩:=g;obtain⟨p,r,sc,rfl⟩:=j;go_in;go_wp2;go_ret;exact⟨rfl,rfl⟩
def WC(n:Nat)(hn:1<=n)(l k:Nat)(w w0:Y)(a:Option S)(m c:Nat)(sk:Int)(zs:List (Lx w))(hm:zs.length=m)(ab:m<=maxLen)(T:Uk w a zs)(J Jx:List (Lx w)->Y->Prop)(hY:∀pre x W,J pre W->pre.length<(yg sk zs).length->YieldAt Fence.wide (n-1) Tryz.prog l (uo x) W fun e W' =>
   (e=.returned (D true)/\J (pre++[x]) W'/\yh w k W W')\/(e=.returned (D false)/\Jx (pre++[x]) W'))
  (P:∀pre W o,J pre W->J pre (W.alloc o))(am:w0.cell? ⟨k,1,V⟩=M (O a m c))(al:w0.cell? ⟨k+1,0,V⟩=M (I .u8 sk))(aG:k+1<w0.heap.size)(hw:oa w w0)(W:Y)(hW:yh w k w0 W)(h0:J [] W) :
  CallsIn Fence.wide n Tryz.prog 118 #[.func (.yield l) #[] #[],F (M ⟨k,0,V⟩),F (M ⟨k+1,0,V⟩)] W fun e W'=>(∃v,e=.returned v)/\
   ((∃ys,ys=yg sk zs/\J ys W')\/(∃pre,pre <+: yg sk zs/\Jx pre W')):=by
 unfold maxLen at ab;have aI:m<=9223372036854775807:=oM;have Hm:=ia hm;have ah:=ia T;clear hm ab T;have ar:W.cell? ⟨k,1,V⟩=M (O a m c):=(World.cell?_of_block hW.1.2).trans am;refine callsIn_of_wp Tryz.func118 rfl trivial ?_ rfl;simp only[Tryz.ntmps118,List.size_toArray,List.length_cons,List.length_nil,Nat.reduceAdd,Nat.reduceSub,Array.replicate_succ,Array.replicate_zero,List.push_toArray,List.append_toArray,List.nil_append,List.cons_append]
 gi_wp2
 gi_loopw [9] (fun t9 wr=>∃j:Nat,j<=m/\t9=I N (j:Int)/\J (yg sk (zs.take j)) wr/\yh w k w0 wr)
  (fun t9 _=>(m+1-intOf t9).toNat)
 case atStart=>exact⟨0,by omega,rfl,by simpa[yg] using h0,hW⟩
 case round =>
  obtain⟨j,hj,rfl,hJ,hx⟩:=hrel;by_cases aH:j<m
  ·have aa:wr.cell? ⟨k+1,0,V⟩=M (I .u8 sk):=(World.cell?_of_block hx.2.2).trans al;have X:oa w wr:=hw.E hx.1.1 (nE _);have zb:=World.block_lt_of_cell? wr _ aa;dsimp only at zb;obtain⟨x,r⟩:∃y,zs[j]?=M y:=⟨zs[j]'(by rw[Hm.o];omega),by simp⟩;obtain⟨s,vl,vu,he,d1,d2,d3⟩:=x.2.1;obtain⟨b,o,rfl,hb,d⟩:=ah.o j x r;rw[he]at d;have hl:uo x=#[H (Jd x.1.2 s vl vu)]:=by unfold uo;rw[he]
   obtain⟨ok,g⟩:=gX (ii sk x.1.2);have i:(ok=true->yg sk (zs.take j)++[x]=yg sk (zs.take (j+1))/\(yg sk (zs.take j)).length<(yg sk zs).length)/\(ok=false->yg sk (zs.take (j+1))=yg sk (zs.take j)):=⟨fun h=>LE r (g.trans h),fun h=>VC r (g.trans h)⟩;have K:=ia i;have f:=fun W' aj ao=>hY (yg sk (zs.take j)) x W' aj ao;rw[hl]at f;obtain⟨p,hp⟩:=gX x.1.2;rw[hp]at d d1 d2 d3 g f;obtain⟨ad,ae,rfl⟩:=d1.form;obtain⟨a1,c1,rfl⟩:=d2.form;obtain⟨af,ag,rfl⟩:=d3.form;obtain⟨n1,f1⟩:=gX ((za p).length);obtain⟨m1,f3⟩:=gX ((Ra p).length);obtain⟨j1,f5⟩:=gX p.shape.length;rw[f1,f3,f5]at d f;obtain⟨nm,sh,de,dn,gx,gz,wy,ax,az,t⟩:=p;unfold Jd at f d;dsimp only at f d;unfold ii at g;dsimp only at g;have ai:=X.d (d 0 (.string nm) rfl);have au:=X.d (d 1 (O ad j1 ae) rfl);have av:=X.d (d 2 (I N de) rfl);have aw:=X.d (d 3 (I N dn) rfl);have ay:=X.d (d 4 (I N gx) rfl);have aA:=X.d (d 5 (I N gz) rfl);have aB:=X.d (d 6 (I N wy) rfl);have aC:=X.d (d 7 (I N ax) rfl);have aD:=X.d (d 8 (I N az) rfl);have aE:=X.d (d 9 (I .u8 t) rfl);have ap:=X.d (d 10 (O a1 n1 c1) rfl);have aq:=X.d (d 11 (O af m1 ag) rfl);simp only[Nat.add_zero]at ai;have aF:b<wr.heap.size:=Nat.lt_of_lt_of_le hb X.size;have p1:(0:Int)<=(j:Int):=oM;have p2:(j:Int)<(m:Int):=oM;have ac:w.heap.size<=wr.heap.size:=X.size;have u1:IntKind.i64.wrap ((j:Int)+1)=((j+1:Nat):Int):=by rw[iW _ ⟨by omega,by omega⟩];rfl
   clear d hl he d1 d2 d3 hp f1 f3 f5 hY i r;have z:(ok=true/\(t==sk)=true)\/(ok=true/\(t==sk)=false/\(t==3)=true)\/(ok=false/\(t==sk)=false/\(t==3)=false):=by
    rw[<-g];cases (t==sk)<;>cases (t==3)<;>simp
   clear g;rcases z with ⟨rfl,g1⟩|⟨rfl,g1,g2⟩|⟨rfl,g1,g2⟩
   rotate_left 2
   ·have e:=K.o.2 rfl;have Hj:=ia hJ;clear f hJ
    gi_wp2
    refine⟨(fun _ h=>nomatch h),?_⟩
    go_at_K
    gi_wp2
    go_roundw
    case rel=>exact⟨j+1,by omega,by go_num,by rw[e];exact P _ _ _ Hj.o,hx.ext ((eR _).alloc _) ac zb⟩
    case measure=>simp[intOf];omega
   all_goals
    obtain⟨e,u⟩:=K.o.1 rfl;obtain⟨fn,tmps,assign,body,hy,hR⟩:=f _ (P _ _ (Q #[.string nm,O ad j1 ae,I N de,I N dn,I N gx,I N gz,I N wy,I N ax,I N az,I .u8 t,O a1 n1 c1,O af m1 ag] 118) hJ) u;rw[e]at hR;have HR:=ia hR;clear f hR e u
    gi_wp2
    refine HR.o.mono ?_;rintro e W3 (⟨rfl,ak,an⟩|⟨rfl,R⟩)
    ·gi_wp2
     go_roundw
     case rel=>exact⟨j+1,by omega,by go_num,ak,(hx.ext ((eR _).alloc _) ac zb).trans an⟩
     case measure=>simp[intOf];omega
    ·gi_wp2
     refine bR (results_none rfl _ _ _) rfl ?_;exact⟨⟨_,rfl⟩,.inr ⟨_,(List.take_prefix (j+1) zs).filter _,R⟩⟩
  ·have e:zs.take j=zs:=lT (by rw[Hm.o];omega);rw[e]at hJ;have p3:¬(j:Int)<(m:Int):=oM;clear e
   gi_wp2
   go_end0
   exact⟨⟨_,rfl⟩,.inl hJ⟩
def oH(n:Nat)(R:1<=n)(b:Nat)(w w0:Y)(a:Option S)(m c:Nat)(sk:Int)(zs:List (Lx w))(P:zs.length=m)(j:m<=maxLen)(f:Uk w a zs)(i:w0.cell? ⟨b,1,V⟩=M (O a m c))(g:w0.cell? ⟨b+1,0,V⟩=M (I .u8 sk))(d:b+1<w0.heap.size)(p:oa w w0):SeqStopsK Fence.wide n Tryz.prog 118 #[F (M ⟨b,0,V⟩),F (M ⟨b+1,0,V⟩)] (fun x:Lx w=>uo x) (yh w b) (fun T=>T=yg sk zs) (fun pre=>pre <+: yg sk zs) (yg sk zs).length w0:=
 fun l J t W y hJ _ z u=>WC n R l b w w0 a m c sk zs P j f J t z (fun pre W' o h=>hJ _ _ _ V h ⟨rfl,rfl,rfl,by simp,fun k K _=>Below.heap_alloc _ _ _ K⟩ (fun r e=>by cases e)) i g d p W ((yh.refl w b w0).ext y p.size d) u
end
section
open Go.RowKit Go.Shelf Go.Sort Go.Lib
def Cg(g:LP)(done:List Pl)(p:Pl):Int:=if Ea p then (if fe g p then (if done.any (qg p.name)then 7 else 0)else 2)else 2
def Ed(g:LP):List Pl->List Pl->Int
 | _,[]=>0
 | done,p::r=>if Cg g done p=0 then Ed g (done++[p]) r else Cg g done p
def Ie(g:LP):List Pl->List Pl->Int
 | _,[]=>0
 | done,p::r=>if kd g done p then Ie g (done++[p]) r else 12
def pb(g:LP)(ps:List Pl):Int:=if ub g then (if 120<ps.length then 5 else if Ed g [] ps=0 then Ie g [] ps else Ed g [] ps)else 2
def Gr{α:Type}{ps:List α}{i:Nat}{p:α}(h:ps[i]?=M p):ps.drop i=p::ps.drop (i+1):=by obtain⟨b,rfl⟩:=lS.1 h;exact List.drop_eq_getElem_cons b
def iJ{g:LP}{ps:List Pl}{i:Nat}{p:Pl}(h:ps[i]?=M p)(b:Cg g (ps.take i) p=0):Ed g (ps.take i) (ps.drop i)=Ed g (ps.take (i+1)) (ps.drop (i+1)):=by rw[Gr h,Xf _ _ _ h,Ed,if_pos b]
def Tu{g:LP}{ps:List Pl}{i:Nat}{p:Pl}(h:ps[i]?=M p)(b:Cg g (ps.take i) p≠0):Ed g (ps.take i) (ps.drop i)=Cg g (ps.take i) p:=by rw[Gr h,Ed,if_neg b]
def gJ{g:LP}{ps:List Pl}{i:Nat}{p:Pl}(h:ps[i]?=M p)(b:kd g (ps.take i) p=true):Ie g (ps.take i) (ps.drop i)=Ie g (ps.take (i+1)) (ps.drop (i+1)):=by rw[Gr h,Xf _ _ _ h,Ie,if_pos b]
def ZJ{g:LP}{ps:List Pl}{i:Nat}{p:Pl}(h:ps[i]?=M p)(b:kd g (ps.take i) p=false):Ie g (ps.take i) (ps.drop i)=12:=by rw[Gr h,Ie,b];rfl
def Gd(w:Y)(base:Nat)(v:Z)(ps:List Pl):Prop:=∃cs,Ga 118 12 w base v cs/\cs.length=ps.length/\∀(i:Nat) c p,cs[i]?=M c->ps[i]?=M p->nj w c p
def Gd.las{w:Y}{base:Nat}{v:Z}{ps:List Pl}(h:Gd w base v ps):Ub w v ps:=by obtain⟨f,b,d,e⟩:=h;exact b.sl d e
def Gd.ext{w w':Y}{base:Nat}{v:Z}{ps:List Pl}(h:Gd w base v ps)(k:oa w w'):Gd w' base v ps:=by obtain⟨b,d,e,f⟩:=h;exact⟨b,d.ext k,e,fun i c p g j=>(f i c p g j).ext k⟩
def Gd.nil(w:Y)(base:Nat):Gd w base (O V 0 0) []:=⟨[],Ga.nil _ _ _ _,rfl,fun i c p b=>by simp at b⟩
def Gd.j{w:Y}{base:Nat}{v:Z}{ps:List Pl}(h:Gd w base v ps):∃a n c,v=O a n c:=by obtain⟨d,b,_⟩:=h;exact b.j
def Gd.setOther{w:Y}{base:Nat}{v:Z}{ps:List Pl}{q:S}(h:Gd w base v ps)(k:v.ownBlock≠M q.block)(j:Wc 55 w q.block)(u:Z):Gd (w.setCell q u) base v ps:=by obtain⟨b,d,e,f⟩:=h;exact⟨b,d.setOther k u,e,fun i c p g l=>(f i c p g l).keep ((Fa.refl _ w).D j u)⟩
def Gd.lt{w:Y}{base:Nat}{v:Z}{ps:List Pl}(h:Gd w base v ps):∀j,v.ownBlock=M j->base<=j/\j<w.heap.size:=by obtain⟨d,b,_⟩:=h;exact b.lt
def Gd.app{wr f:Y}{base:Nat}{k:Z}{ps:List Pl}{cs:List (List Z)}{d:List Z}{p:Pl}(h:Ga 118 12 f base k (cs++[d]))(g:cs.length=ps.length)(j:∀(i:Nat) c p,cs[i]?=M c->ps[i]?=M p->nj wr c p)(o:Fa 55 wr f)(l:nj f d p):Gd f base k (ps++[p]):=by
 refine⟨cs++[d],h,by simp[g],fun i c x b e=>?_⟩;by_cases n:i<cs.length
 ·rw[List.getElem?_append_left n]at b;rw[List.getElem?_append_left oM]at e;exact(j i c x b e).keep o
 ·rw[List.getElem?_append_right oM]at b e;have r:=(lS.1 b).1;simp at r;have:i-cs.length=0:=oM;rw[this]at b;rw[show i-ps.length=0 by omega]at e;simp at b e;subst b e;exact l
def IE:(Tryz.prog.info? 118).map (fun i=>(i.zero,i.size,i.bytes))=M (M (H Mp),12,152):=kM
def yr(W:Y)(cs:Array Z)(T:TypeId):∀(j:Nat) u,[cs.toList].flatten[j]?=M u->(W.alloc (Q cs T)).cell? ((⟨W.heap.size,0,V⟩:S).add j)=M u:=by
 intro j u b;rw[List.flatten_cons,List.flatten_nil,List.append_nil,Array.getElem?_toList]at b;have e:=Gb (aN W (Q cs T)) b;unfold Addr.add;split
 ·subst j;exact e
 ·rw[show (⟨W.heap.size,0,V⟩:S).off+j=j by simp];exact e
def Tk(w:Y)(c:List Z)(p:Pl):Prop:=∃v,c=(pe p v).toList/\Aa w v p.shape/\0<=p.skin
def Tk.ext{w w':Y}{c:List Z}{p:Pl}(h:Tk w c p)(k:oa w w'):Tk w' c p:=by obtain⟨v,b,d,e⟩:=h;exact⟨v,b,d.i k,e⟩
abbrev td(w:Y)(v:Z)(ps:List Pl):Prop:=Sl 72 10 Tk w v ps
def td.i{w w':Y}{v:Z}{ps:List Pl}(h:td w v ps)(k:oa w w'):td w' v ps:=Sl.ext h (fun _ _ h=>Tk.ext h k) k
def td.at'{w:Y}{a:Option S}{n c:Nat}{ps:List Pl}(h:td w (O a n c) ps){i:Nat}{p:Pl}(r:ps[i]?=M p):∃b o v,a=M ⟨b,o,V⟩/\b<w.heap.size/\Aa w v p.shape/\0<=p.skin/\∀(j:Nat) u,(pe p v)[j]?=M u->w.cell? ⟨b,o+i*10+j,V⟩=M u:=by
 obtain⟨b,o,d,rfl,g,t,⟨v,rfl,e,f⟩,k⟩:=Sl.at h r;exact⟨b,o,v,rfl,g,e,f,fun j u l=>k j u (by rw[Array.getElem?_toList];exact l)⟩
