import Derived.Test.YthgbjoahfnjadaaGreatDoorCopA04
import Derived.Laws.StructEq
import Derived.Deep.RegionLaw
import Derived.Lib.AppendZerosOnto
set_option maxRecDepth 1000000
set_option maxHeartbeats 16000000
set_option linter.all false
open Go.IntKind renaming i64->O
open Go.Value renaming int->Y,agg->I,slice->J,pointer->N,bool->H
open Option renaming some->Z,none->X
open Go renaming World->V,Value->M
namespace Go.Proofs.YthgbjoahfnjadaaGreatDoor.Cop
section
open Go.RowKit Go.Shelf
def Mh(m q:Int×Int):Int×Int:=if Gl q m<0 then q else m
def Nf:LP->Int×Int
 | []=>(0,0)
 | p::ps=>ps.foldl Mh p
def zH(ps:LP)(q:Int×Int)(h:ps≠[]):Nf (ps++[q])=Mh (Nf ps) q:=by
 cases ps with
 | nil=>exact absurd rfl h
 | cons p ps=>simp[Nf]
def tM(w:V)(ps:LP)(g:Nat)(a:M)(W:V):Prop:=
 ∃i:Nat,1<=i/\i<=ps.length/\a=Y O i/\g=ps.length-i/\oa w W/\W.heap[w.heap.size]?=Z (.cells #[Y O 0,Y O 0] 55 (0,0))/\
  ∃x z,Nf (ps.take i)=(x,z)/\W.heap[w.heap.size+1]?=Z (.cells #[Y O x,Y O z] 55 (0,0))
def Iw(w:V)(v:M)(ps:LP)(h:Aa w v ps)(h0:0<ps.length):Calls Tryz.prog 237 #[v,.func (.func 238) #[] #[]] w fun e w'=>e=.returned (I #[Y O (Nf ps).1,Y O (Nf ps).2])/\oa w w':=by
 obtain⟨a,c,rfl⟩:=h.form;obtain⟨n,hn⟩:=gX ps.length;rw[hn]at h ⊢;have T:=h.le;unfold maxLen at T;have an:0<n:=oM;have ao:(1:Int)<=(n:Int):=oM;have ap:n<=9223372036854775807:=oM;obtain⟨⟨x0,z0⟩,hp⟩:∃p,ps[0]?=Z p:=⟨ps[0],by simp⟩;obtain⟨b,o,rfl,hb,c0,c1⟩:=h.at' hp;simp only[Nat.zero_mul,Nat.add_zero]at c0 c1;have al:b<w.heap.size+1:=oM;have aa:Nf (ps.take 1)=(x0,z0):=by rw[Xf _ _ _ hp];rfl
 have af:=ia aa;have f:=ia hn;clear hn T hp h0 aa;go_in;go_wp2;go_loopg [6] (n-1) (tM w ps)
 case atStart =>
  exact⟨1,nE _,by rw[f.o];omega,rfl,by rw[f.o],eA,by rw[Ef,if_neg sM];exact Kc _ _ _ rfl,x0,z0,af.o,Kc _ _ _ sM⟩
 case round =>
  obtain⟨i,am,hi,rfl,rfl,hx,s,x,z,hv,r⟩:=hrel;rw[f.o]at hi;have r0:=ja s 0 (Y O 0);have r1:=ja s 1 (Y O 0);have au:=Vb s 0;have av:=Vb s 1;have o0:=ja r 0 (Y O x);have o1:=ja r 1 (Y O z);have aq:=Vb r 0;have ar:=Vb r 1;have zr:=jc s;have zo:=jc r;have HR:=ia s;have HO:=ia r;have HV:=ia hv;clear s r hv c0 c1;by_cases aj:i<n
  ·obtain⟨⟨u,y⟩,hq⟩:∃q,ps[i]?=Z q:=⟨ps[i]'(by rw[f.o];omega),by simp[f.o,aj]⟩;obtain⟨b',o',e',ak,d0,d1⟩:=(h.i hx).at' hq;cases e';have ab:ps.take i≠[]:=by
    intro e;(have h2:(ps.take i).length=0:=by rw[e];rfl);rw[List.length_take,f.o]at h2;omega
   have d:Nf (ps.take (i+1))=Mh (x,z) (u,y):=by rw[Xf _ _ _ hq,zH _ _ ab,HV.o]
   obtain⟨C,hC⟩:=gX (Gl (u,y) (x,z));unfold Mh at d;rw[hC]at d;have R:=ia d;have k:=fun W=>CH W u y x z;rw[hC]at k;have m:=ia k;clear hq d ab hC k;have p1:(0:Int)<=(i:Int):=oM;have p2:(i:Int)<(n:Int):=oM;by_cases K:C<0
   ·(have ah:decide (C<0)=true:=by simpa using K);have P:=ia K;clear K;go_wp2;go_region_held3 (fun W=>W.cell? ⟨b,o+i*2,X⟩=Z (Y O u)/\W.cell? ⟨b,o+i*2+1,X⟩=Z (Y O y)/\W.cell? ⟨w.heap.size+1,0,X⟩=Z (Y O x)/\W.cell? ⟨w.heap.size+1,1,X⟩=Z (Y O z)) ((repeat' (with_reducible refine And.intro ?_ ?_))<;>(first|(go_simp;done)|(refine hx1.d ?_;go_simp;done))) (((go_at_call 238;refine cM (m.o _) ?_;rintro e w1 ⟨rfl,hx1⟩;obtain⟨⟨ag,ai⟩,ac,ad⟩:=Oi w hx1)))
    all_goals go_wp2
    all_goals
     go_roundg (n-(i+1))
     case measure=>have:=f.o;omega
     case rel =>
      have l:oa wr w1:=(eR wr).drew.trans hx1;have j:=l.e HR.o;have g:=l.e HO.o;have d:=R.o
      first
       | (rw[if_pos P.o]at d;exact⟨i+1,by omega,by rw[f.o];omega,by go_num,by rw[f.o],eA,by rw[bS _ _ _ _ dO,bS _ _ _ _ dO];exact j,u,y,d,yl g _ _⟩)
       | (rw[if_neg (by have:=P.o;omega)]at d;exact⟨i+1,by omega,by rw[f.o];omega,by go_num,by rw[f.o],eA,j,x,z,d,g⟩)
   ·(have ah:decide (C<0)=false:=by simpa using K);have P:=ia K;clear K;go_wp2;go_region_held3 (fun W=>W.cell? ⟨b,o+i*2,X⟩=Z (Y O u)/\W.cell? ⟨b,o+i*2+1,X⟩=Z (Y O y)/\W.cell? ⟨w.heap.size+1,0,X⟩=Z (Y O x)/\W.cell? ⟨w.heap.size+1,1,X⟩=Z (Y O z)) ((repeat' (with_reducible refine And.intro ?_ ?_))<;>(first|(go_simp;done)|(refine hx1.d ?_;go_simp;done))) (((go_at_call 238;refine cM (m.o _) ?_;rintro e w1 ⟨rfl,hx1⟩;obtain⟨⟨ag,ai⟩,ac,ad⟩:=Oi w hx1)))
    all_goals go_wp2
    all_goals
     go_roundg (n-(i+1))
     case measure=>have:=f.o;omega
     case rel =>
      have l:oa wr w1:=(eR wr).drew.trans hx1;have j:=l.e HR.o;have g:=l.e HO.o;have d:=R.o
      first
       | (rw[if_pos P.o]at d;exact⟨i+1,by omega,by rw[f.o];omega,by go_num,by rw[f.o],eA,by rw[bS _ _ _ _ dO,bS _ _ _ _ dO];exact j,u,y,d,yl g _ _⟩)
       | (rw[if_neg (by have:=P.o;omega)]at d;exact⟨i+1,by omega,by rw[f.o];omega,by go_num,by rw[f.o],eA,j,x,z,d,g⟩)
  ·obtain rfl:i=n:=oM;have t:=HV.o;rw[lT (by rw[f.o];omega)]at t;have ae:=ia t;clear t;go_wp2;refine bR (v:=I #[Y O x,Y O z]) (by simp[results,Tryz.results237,go_sem,r0,r1]) rfl ⟨?_,eA⟩;rw[ae.o]
def Vd(ps:LP):Bool:=!(ps.any Fe)&&Ta ps&&(Ab ps==(0,0))&&(Nf ps==ps.getD 0 (0,0))
def GB{ps:LP}(h:ps.any Fe=true):Vd ps=false:=by simp[Vd,h]
def Es{ps:LP}(h:Ta ps=false):Vd ps=false:=by simp[Vd,h]
def Sv{ps:LP}(h:ps.any Fe=false):Se 2000 ps:=by intro p b;have a:=(List.any_eq_false.1 h) p b;simp[Fe,xb]at a;unfold Bd;omega
def Se.mono{j k:Int}{ps:LP}(h:Se j ps)(a:j<=k):Se k ps:=fun p b=>⟨(h p b).1.mono a,(h p b).2.mono a⟩
def Nu{ps:LP}(h:Ta ps=true):3<=ps.length/\ps.length<=12:=by unfold Ta at h;rw[Bool.and_eq_true]at h;have:=h.1;simp[xb]at this;omega
def UJ(w:V)(v:M)(ps:LP)(h:Aa w v ps):Calls Tryz.prog 196 #[v] w fun e w'=>e=.returned (H (Vd ps))/\oa w w':=by
 obtain⟨a,c,rfl⟩:=h.form;obtain⟨n,hn⟩:=gX ps.length;rw[hn]at h ⊢;have i:=fun W (hW:oa w W)=>mI W (J a n c) ps (h.i hW);by_cases hf:ps.any Fe=true
 ·rw[GB hf];rw[hf]at i;have g:=ia i;clear i hf;go_in;go_wp2_with(((go_at_call 234;refine cM (g.o _ eA) ?_;rintro e w1 ⟨rfl,d⟩)));go_ret;exact⟨rfl,eA⟩
 have K:ps.any Fe=false:=by simpa using hf
 have ai:=Sv K;rw[K]at i;have g:=ia i;have u:=fun W (hW:oa w W)=>qJ W (J a n c) ps (h.i hW) (ai.mono dM);by_cases hc:Ta ps=true
 ·have an:=Nu hc;have h0:0<ps.length:=oM;rw[hc]at u;have q:=ia u;have ak:=fun W (hW:oa w W)=>fA W (J a n c) ps (h.i hW) h0;have am:=fun W (hW:oa w W)=>Iw W (J a n c) ps (h.i hW) h0;obtain⟨⟨lx,lz⟩,hl⟩:∃p,Ab ps=p:=⟨_,rfl⟩;obtain⟨⟨t,mz⟩,hm⟩:∃p,Nf ps=p:=⟨_,rfl⟩;obtain⟨⟨m,r⟩,hp⟩:∃p,ps[0]?=Z p:=⟨ps[0],by simp⟩;rw[hl]at ak;rw[hm]at am;have ao:Vd ps=((decide (lx=0)&&decide (lz=0))&&(decide (t=m)&&decide (mz=r))):=by
   unfold Vd;rw[K,hc,hl,hm,gD,hp];rw[Bool.eq_iff_iff];simp[and_assoc]
  rw[ao];have x:=ia ak;have af:=ia am;obtain⟨b,o,rfl,hb,c0,c1⟩:=h.at' hp;simp only[Nat.zero_mul,Nat.add_zero]at c0 c1;have ar:(0:Int)<(n:Int):=by rw[hn]at h0;omega
  clear ak am u i hf K hc hl hm hp ao hn an ai h0;by_cases al:lx=0/\lz=0
  ·obtain⟨rfl,rfl⟩:=al;have au:0<n:=oM;have ag:t=m/\mz=r->Calls Tryz.prog 196 #[J (Z ⟨b,o,X⟩) n c] w fun e w'=>e=.returned (H ((decide ((0:Int)=0)&&decide ((0:Int)=0))&&(decide (t=m)&&decide (mz=r))))/\oa w w':=by
    intro j;have f1:(t==m)=true:=(by simpa using j.1);have f2:(mz==r)=true:=(by simpa using j.2);have g1:(decide (t=m)&&decide (mz=r))=true:=(by simp[j.1,j.2]);rw[g1];clear g1 j;go_in;go_wp2_with(first|((go_at_call 234;refine cM (g.o _ eA) ?_;rintro e w1 ⟨rfl,d⟩;obtain⟨ab,ad⟩:=d.cells;(have l:=d.lt hb)))|((go_at_call 235;refine cM (q.o _ eA) ?_;rintro e w2 ⟨rfl,f⟩;obtain⟨ac,ae⟩:=f.cells;(have s:=f.lt l))));have aa:b<w2.heap.size:=s;go_region_held3 (fun W=>W.cell? ⟨b,o,X⟩=Z (Y O m)/\W.cell? ⟨b,o+1,X⟩=Z (Y O r)) ((repeat' (with_reducible refine And.intro ?_ ?_))<;>(first|(go_simp;done)|(refine d.d ?_;go_simp;done))) (first|((go_at_call 236;refine cM (x.o _ eA) ?_;rintro e w3 ⟨rfl,k⟩;obtain⟨y,P⟩:=k.cells;(try simp only[Zf,Yf,Tb]at y P);(have ap:=k.lt aa)))|((go_at_call 237;refine cM (af.o _ eA) ?_;rintro e w4 ⟨rfl,T⟩;obtain⟨z,R⟩:=T.cells;(try simp only[Zf,Yf,Tb]at z R))))
    all_goals go_wp2
    go_ret;exact⟨rfl,eA⟩
   have ah:t=m/\mz≠r->Calls Tryz.prog 196 #[J (Z ⟨b,o,X⟩) n c] w fun e w'=>e=.returned (H ((decide ((0:Int)=0)&&decide ((0:Int)=0))&&(decide (t=m)&&decide (mz=r))))/\oa w w':=by
    intro j;have f1:(t==m)=true:=(by simpa using j.1);have f2:(mz==r)=false:=(by simpa using j.2);have g1:(decide (t=m)&&decide (mz=r))=false:=(by simp[j.2]);rw[g1];clear g1 j;go_in;go_wp2_with(first|((go_at_call 234;refine cM (g.o _ eA) ?_;rintro e w1 ⟨rfl,d⟩;obtain⟨ab,ad⟩:=d.cells;(have l:=d.lt hb)))|((go_at_call 235;refine cM (q.o _ eA) ?_;rintro e w2 ⟨rfl,f⟩;obtain⟨ac,ae⟩:=f.cells;(have s:=f.lt l))));have aa:b<w2.heap.size:=s;go_region_held3 (fun W=>W.cell? ⟨b,o,X⟩=Z (Y O m)/\W.cell? ⟨b,o+1,X⟩=Z (Y O r)) ((repeat' (with_reducible refine And.intro ?_ ?_))<;>(first|(go_simp;done)|(refine d.d ?_;go_simp;done))) (first|((go_at_call 236;refine cM (x.o _ eA) ?_;rintro e w3 ⟨rfl,k⟩;obtain⟨y,P⟩:=k.cells;(try simp only[Zf,Yf,Tb]at y P);(have ap:=k.lt aa)))|((go_at_call 237;refine cM (af.o _ eA) ?_;rintro e w4 ⟨rfl,T⟩;obtain⟨z,R⟩:=T.cells;(try simp only[Zf,Yf,Tb]at z R))))
    all_goals go_wp2
    go_ret;exact⟨rfl,eA⟩
   have aq:t≠m->Calls Tryz.prog 196 #[J (Z ⟨b,o,X⟩) n c] w fun e w'=>e=.returned (H ((decide ((0:Int)=0)&&decide ((0:Int)=0))&&(decide (t=m)&&decide (mz=r))))/\oa w w':=by
    intro j;have f1:(t==m)=false:=(by simpa using j);have g1:(decide (t=m)&&decide (mz=r))=false:=(by simp[j]);rw[g1];clear g1 j;go_in;go_wp2_with(first|((go_at_call 234;refine cM (g.o _ eA) ?_;rintro e w1 ⟨rfl,d⟩;obtain⟨ab,ad⟩:=d.cells;(have l:=d.lt hb)))|((go_at_call 235;refine cM (q.o _ eA) ?_;rintro e w2 ⟨rfl,f⟩;obtain⟨ac,ae⟩:=f.cells;(have s:=f.lt l))));have aa:b<w2.heap.size:=s;go_region_held3 (fun W=>W.cell? ⟨b,o,X⟩=Z (Y O m)/\W.cell? ⟨b,o+1,X⟩=Z (Y O r)) ((repeat' (with_reducible refine And.intro ?_ ?_))<;>(first|(go_simp;done)|(refine d.d ?_;go_simp;done))) (first|((go_at_call 236;refine cM (x.o _ eA) ?_;rintro e w3 ⟨rfl,k⟩;obtain⟨y,P⟩:=k.cells;(try simp only[Zf,Yf,Tb]at y P);(have ap:=k.lt aa)))|((go_at_call 237;refine cM (af.o _ eA) ?_;rintro e w4 ⟨rfl,T⟩;obtain⟨z,R⟩:=T.cells;(try simp only[Zf,Yf,Tb]at z R))))
    all_goals go_wp2
    go_ret;exact⟨rfl,eA⟩
   by_cases e1:t=m
   ·by_cases e2:mz=r
    ·exact ag ⟨e1,e2⟩
    ·exact ah ⟨e1,e2⟩
   ·exact aq e1
  ·have hz:(decide (lx=0)&&decide (lz=0))=false:=by
    rw[Bool.and_eq_false_iff];by_cases h1:lx=0
    ·right;simp;exact fun h2=>al ⟨h1,h2⟩
    ·left;simpa using h1
   rw[hz];clear hz;rw[Bool.false_and];have ag:lx=0/\lz≠0->Calls Tryz.prog 196 #[J (Z ⟨b,o,X⟩) n c] w fun e w'=>e=.returned (H false)/\oa w w':=by
    intro j;have f1:(lx==0)=true:=(by simpa using j.1);have f2:(lz==0)=false:=(by simpa using j.2);clear j;go_in;go_wp2_with(first|((go_at_call 234;refine cM (g.o _ eA) ?_;rintro e w1 ⟨rfl,d⟩;obtain⟨ab,ad⟩:=d.cells;(have l:=d.lt hb)))|((go_at_call 235;refine cM (q.o _ eA) ?_;rintro e w2 ⟨rfl,f⟩;obtain⟨ac,ae⟩:=f.cells;(have s:=f.lt l))))
    first|(go_region_with (((go_at_call 236;refine cM (x.o _ eA) ?_;rintro e w3 ⟨rfl,k⟩))))|fail
    all_goals go_wp2
    all_goals go_ret
    all_goals exact⟨rfl,eA⟩
   have ah:lx≠0->Calls Tryz.prog 196 #[J (Z ⟨b,o,X⟩) n c] w fun e w'=>e=.returned (H false)/\oa w w':=by
    intro j;have f1:(lx==0)=false:=(by simpa using j);clear j;go_in;go_wp2_with(first|((go_at_call 234;refine cM (g.o _ eA) ?_;rintro e w1 ⟨rfl,d⟩;obtain⟨ab,ad⟩:=d.cells;(have l:=d.lt hb)))|((go_at_call 235;refine cM (q.o _ eA) ?_;rintro e w2 ⟨rfl,f⟩;obtain⟨ac,ae⟩:=f.cells;(have s:=f.lt l))))
    first|(go_region_with (((go_at_call 236;refine cM (x.o _ eA) ?_;rintro e w3 ⟨rfl,k⟩))))|fail
    all_goals go_wp2
    all_goals go_ret
    all_goals exact⟨rfl,eA⟩
   by_cases e1:lx=0
   ·exact ag ⟨e1,fun h2=>al ⟨e1,h2⟩⟩
   ·exact ah e1
 ·have aj:Ta ps=false:=by simpa using hc
  rw[Es aj];rw[aj]at u;have q:=ia u;clear u hc aj i hf K ai;go_in;go_wp2_with(first|((go_at_call 234;refine cM (g.o _ eA) ?_;rintro e w1 ⟨rfl,d⟩))|((go_at_call 235;refine cM (q.o _ eA) ?_;rintro e w2 ⟨rfl,f⟩)));go_ret;exact⟨rfl,eA⟩
def Nx(w:V)(x z:Int)(a:Bd 1000000 x)(b:Bd 1000000 z):Calls Tryz.prog 332 #[I #[Y O x,Y O z]] w fun e c=>e=.returned (I #[Y O x,Y O z])/\oa w c:=by obtain⟨d,f⟩:=a;obtain⟨g,i⟩:=b;have j:IntKind.i64.wrap (-x) = -x:=iW _ ⟨by omega,by omega⟩;have k:IntKind.i64.wrap (-z) = -z:=iW _ ⟨by omega,by omega⟩;go_in;go_wp2;exact bR (v:=I #[Y O x,Y O z]) (by simp[results,Tryz.results332,go_sem]) rfl ⟨rfl,eA⟩
def Mx(w:V)(x z:Int)(a:Bd 1000000 x)(b:Bd 1000000 z):Calls Tryz.prog 333 #[I #[Y O x,Y O z]] w fun e c=>e=.returned (I #[Y O (-z),Y O x])/\oa w c:=by obtain⟨d,f⟩:=a;obtain⟨g,i⟩:=b;have j:IntKind.i64.wrap (-x) = -x:=iW _ ⟨by omega,by omega⟩;have k:IntKind.i64.wrap (-z) = -z:=iW _ ⟨by omega,by omega⟩;go_in;go_wp2;exact bR (v:=I #[Y O (-z),Y O x]) (by simp[results,Tryz.results333,go_sem]) rfl ⟨rfl,eA⟩
def Kx(w:V)(x z:Int)(a:Bd 1000000 x)(b:Bd 1000000 z):Calls Tryz.prog 334 #[I #[Y O x,Y O z]] w fun e c=>e=.returned (I #[Y O (-x),Y O (-z)])/\oa w c:=by obtain⟨d,f⟩:=a;obtain⟨g,i⟩:=b;have j:IntKind.i64.wrap (-x) = -x:=iW _ ⟨by omega,by omega⟩;have k:IntKind.i64.wrap (-z) = -z:=iW _ ⟨by omega,by omega⟩;go_in;go_wp2;exact bR (v:=I #[Y O (-x),Y O (-z)]) (by simp[results,Tryz.results334,go_sem]) rfl ⟨rfl,eA⟩
def Ix(w:V)(x z:Int)(a:Bd 1000000 x)(b:Bd 1000000 z):Calls Tryz.prog 335 #[I #[Y O x,Y O z]] w fun e c=>e=.returned (I #[Y O z,Y O (-x)])/\oa w c:=by obtain⟨d,f⟩:=a;obtain⟨g,i⟩:=b;have j:IntKind.i64.wrap (-x) = -x:=iW _ ⟨by omega,by omega⟩;have k:IntKind.i64.wrap (-z) = -z:=iW _ ⟨by omega,by omega⟩;go_in;go_wp2;exact bR (v:=I #[Y O z,Y O (-x)]) (by simp[results,Tryz.results335,go_sem]) rfl ⟨rfl,eA⟩
def Cb(n:Int):Bool:=decide (n < -100000) || decide (100000<n)
def zi(w:V)(n:Int):Calls Tryz.prog 50 #[Y O n] w fun e b=>e=.returned (H (Cb n))/\oa w b:=by
 unfold Cb;by_cases h:n < -100000
 ·have a:decide (n < -100000)=true:=by simpa using h
  go_in;go_wp2;go_ret;exact⟨by simp[a],eA⟩
 ·have a:decide (n < -100000)=false:=by simpa using h
  go_in;go_wp2;go_ret;exact⟨by simp[a],eA⟩
def Jz(w:V)(n:Int):Calls Tryz.prog 50 #[Y O n] w fun e b=>e=.returned (H (Cb n))/\b=w:=by
 unfold Cb;by_cases h:n < -100000
 ·have a:decide (n < -100000)=true:=by simpa using h
  go_in;go_wp2;go_ret;exact⟨by simp[a],rfl⟩
 ·have a:decide (n < -100000)=false:=by simpa using h
  go_in;go_wp2;go_ret;exact⟨by simp[a],rfl⟩
def Gw(w:V):Prop:=0<w.heap.size/\w.cell? ⟨0,0,X⟩=Z (.func (.func 332) #[] #[])/\w.cell? ⟨0,1,X⟩=Z (.func (.func 333) #[] #[])/\w.cell? ⟨0,2,X⟩=Z (.func (.func 334) #[] #[])/\w.cell? ⟨0,3,X⟩=Z (.func (.func 335) #[] #[])
def Gw.ext{w w':V}(h:Gw w)(k:oa w w'):Gw w':=by obtain⟨a,b,c,d,e⟩:=h;exact⟨k.lt a,k.d b,k.d c,k.d d,k.d e⟩
def jb(way:Int)(p:Int×Int):Int×Int:=
 let q:=if 3<way then (-p.1,p.2)else p
 if way%4=0 then q else if way%4=1 then (-q.2,q.1)else if way%4=2 then (-q.1,-q.2)else (q.2,-q.1)
def BJ(w:V)(x z:Int)(c:Nat)(p:w.cell? ⟨c,0,X⟩=Z (Y O 0))(o:Gw w)(f:Bd 1000000 x)(g:Bd 1000000 z):Calls Tryz.prog 260 #[I #[Y O x,Y O z],N (Z ⟨c,0,X⟩)] w fun e q=>e=.returned (I #[Y O x,Y O z])/\oa w q:=by
 obtain⟨u,j,k,l,m⟩:=o;have HX:=ia f;have i:=ia g;have P:c<w.heap.size:=World.block_lt_of_cell? w _ p;have t:c<w.heap.size+1:=oM;have s:0<w.heap.size+1:=oM;have y:w.cell? ⟨0,0,X⟩=Z (.func (.func 332) #[] #[]):=by assumption
 clear f g j k l m;go_in;go_wp2
 first|(go_region_with (((go_at_call 332;(with_reducible refine(Nx _ x z HX.o i.o).mono ?_);rintro e K ⟨rfl,b⟩;obtain⟨a,d⟩:=b.cells;(try simp only[Zf,Yf,Tb]at a d);have r:=b.lt (n:=w.heap.size+1) (by go_simp)))))|fail
 all_goals go_wp2
 all_goals exact bR (v:=I #[Y O x,Y O z]) (by simp[results,Tryz.results260,go_sem,a,r]) rfl ⟨rfl,eA⟩
def AJ(w:V)(x z:Int)(c:Nat)(p:w.cell? ⟨c,0,X⟩=Z (Y O 1))(o:Gw w)(f:Bd 1000000 x)(g:Bd 1000000 z):Calls Tryz.prog 260 #[I #[Y O x,Y O z],N (Z ⟨c,0,X⟩)] w fun e q=>e=.returned (I #[Y O (-z),Y O x])/\oa w q:=by
 obtain⟨u,j,k,l,m⟩:=o;have HX:=ia f;have i:=ia g;have P:c<w.heap.size:=World.block_lt_of_cell? w _ p;have t:c<w.heap.size+1:=oM;have s:0<w.heap.size+1:=oM;have y:w.cell? ⟨0,1,X⟩=Z (.func (.func 333) #[] #[]):=by assumption
 clear f g j k l m;go_in;go_wp2
 first|(go_region_with (((go_at_call 333;(with_reducible refine(Mx _ x z HX.o i.o).mono ?_);rintro e K ⟨rfl,b⟩;obtain⟨a,d⟩:=b.cells;(try simp only[Zf,Yf,Tb]at a d);have r:=b.lt (n:=w.heap.size+1) (by go_simp)))))|fail
 all_goals go_wp2
 all_goals exact bR (v:=I #[Y O (-z),Y O x]) (by simp[results,Tryz.results260,go_sem,a,r]) rfl ⟨rfl,eA⟩
def zJ(w:V)(x z:Int)(c:Nat)(p:w.cell? ⟨c,0,X⟩=Z (Y O 2))(o:Gw w)(f:Bd 1000000 x)(g:Bd 1000000 z):Calls Tryz.prog 260 #[I #[Y O x,Y O z],N (Z ⟨c,0,X⟩)] w fun e q=>e=.returned (I #[Y O (-x),Y O (-z)])/\oa w q:=by
 obtain⟨u,j,k,l,m⟩:=o;have HX:=ia f;have i:=ia g;have P:c<w.heap.size:=World.block_lt_of_cell? w _ p;have t:c<w.heap.size+1:=oM;have s:0<w.heap.size+1:=oM;have y:w.cell? ⟨0,2,X⟩=Z (.func (.func 334) #[] #[]):=by assumption
 clear f g j k l m;go_in;go_wp2
 first|(go_region_with (((go_at_call 334;(with_reducible refine(Kx _ x z HX.o i.o).mono ?_);rintro e K ⟨rfl,b⟩;obtain⟨a,d⟩:=b.cells;(try simp only[Zf,Yf,Tb]at a d);have r:=b.lt (n:=w.heap.size+1) (by go_simp)))))|fail
 all_goals go_wp2
 all_goals exact bR (v:=I #[Y O (-x),Y O (-z)]) (by simp[results,Tryz.results260,go_sem,a,r]) rfl ⟨rfl,eA⟩
def pK(w:V)(x z:Int)(c:Nat)(p:w.cell? ⟨c,0,X⟩=Z (Y O 3))(o:Gw w)(f:Bd 1000000 x)(g:Bd 1000000 z):Calls Tryz.prog 260 #[I #[Y O x,Y O z],N (Z ⟨c,0,X⟩)] w fun e q=>e=.returned (I #[Y O z,Y O (-x)])/\oa w q:=by
 obtain⟨u,j,k,l,m⟩:=o;have HX:=ia f;have i:=ia g;have P:c<w.heap.size:=World.block_lt_of_cell? w _ p;have t:c<w.heap.size+1:=oM;have s:0<w.heap.size+1:=oM;have y:w.cell? ⟨0,3,X⟩=Z (.func (.func 335) #[] #[]):=by assumption
 clear f g j k l m;go_in;go_wp2
 first|(go_region_with (((go_at_call 335;(with_reducible refine(Ix _ x z HX.o i.o).mono ?_);rintro e K ⟨rfl,b⟩;obtain⟨a,d⟩:=b.cells;(try simp only[Zf,Yf,Tb]at a d);have r:=b.lt (n:=w.heap.size+1) (by go_simp)))))|fail
 all_goals go_wp2
 all_goals exact bR (v:=I #[Y O z,Y O (-x)]) (by simp[results,Tryz.results260,go_sem,a,r]) rfl ⟨rfl,eA⟩
def oK(w:V)(x z:Int)(d:Nat)(q:w.cell? ⟨d,0,X⟩=Z (Y O 4))(p:Gw w)(g:Bd 1000000 x)(i:Bd 1000000 z):Calls Tryz.prog 260 #[I #[Y O x,Y O z],N (Z ⟨d,0,X⟩)] w fun e r=>e=.returned (I #[Y O (-x),Y O z])/\oa w r:=by
 obtain⟨y,k,l,m,o⟩:=p;have b:Bd 1000000 (-x):=by unfold Bd at *;omega
 have HX:=ia b;have j:=ia i;have T:d<w.heap.size:=World.block_lt_of_cell? w _ q;have u:d<w.heap.size+1:=oM;have t:0<w.heap.size+1:=oM;have K:w.cell? ⟨0,0,X⟩=Z (.func (.func 332) #[] #[]):=by assumption
 have R:IntKind.i64.wrap (-x) = -x:=by unfold Bd at g;exact iW _ ⟨by omega,by omega⟩
 clear g i k l m o b;go_in;go_wp2
 first|(go_region_with (((go_at_call 332;(with_reducible refine(Nx _ (-x) z HX.o j.o).mono ?_);rintro e P ⟨rfl,c⟩;obtain⟨a,f⟩:=c.cells;(try simp only[Zf,Yf,Tb]at a f);have s:=c.lt (n:=w.heap.size+1) (by go_simp)))))|fail
 all_goals go_wp2
 all_goals exact bR (v:=I #[Y O (-x),Y O z]) (by simp[results,Tryz.results260,go_sem,a,s]) rfl ⟨rfl,eA⟩
def nK(w:V)(x z:Int)(d:Nat)(q:w.cell? ⟨d,0,X⟩=Z (Y O 5))(p:Gw w)(g:Bd 1000000 x)(i:Bd 1000000 z):Calls Tryz.prog 260 #[I #[Y O x,Y O z],N (Z ⟨d,0,X⟩)] w fun e r=>e=.returned (I #[Y O (-z),Y O (-x)])/\oa w r:=by
 obtain⟨y,k,l,m,o⟩:=p;have b:Bd 1000000 (-x):=by unfold Bd at *;omega
 have HX:=ia b;have j:=ia i;have T:d<w.heap.size:=World.block_lt_of_cell? w _ q;have u:d<w.heap.size+1:=oM;have t:0<w.heap.size+1:=oM;have K:w.cell? ⟨0,1,X⟩=Z (.func (.func 333) #[] #[]):=by assumption
 have R:IntKind.i64.wrap (-x) = -x:=by unfold Bd at g;exact iW _ ⟨by omega,by omega⟩
 clear g i k l m o b;go_in;go_wp2
 first|(go_region_with (((go_at_call 333;(with_reducible refine(Mx _ (-x) z HX.o j.o).mono ?_);rintro e P ⟨rfl,c⟩;obtain⟨a,f⟩:=c.cells;(try simp only[Zf,Yf,Tb]at a f);have s:=c.lt (n:=w.heap.size+1) (by go_simp)))))|fail
 all_goals go_wp2
 all_goals exact bR (v:=I #[Y O (-z),Y O (-x)]) (by simp[results,Tryz.results260,go_sem,a,s]) rfl ⟨rfl,eA⟩
def mK(w:V)(x z:Int)(d:Nat)(q:w.cell? ⟨d,0,X⟩=Z (Y O 6))(p:Gw w)(g:Bd 1000000 x)(i:Bd 1000000 z):Calls Tryz.prog 260 #[I #[Y O x,Y O z],N (Z ⟨d,0,X⟩)] w fun e r=>e=.returned (I #[Y O (- -x),Y O (-z)])/\oa w r:=by
 obtain⟨y,k,l,m,o⟩:=p;have b:Bd 1000000 (-x):=by unfold Bd at *;omega
 have HX:=ia b;have j:=ia i;have T:d<w.heap.size:=World.block_lt_of_cell? w _ q;have u:d<w.heap.size+1:=oM;have t:0<w.heap.size+1:=oM;have K:w.cell? ⟨0,2,X⟩=Z (.func (.func 334) #[] #[]):=by assumption
 have R:IntKind.i64.wrap (-x) = -x:=by unfold Bd at g;exact iW _ ⟨by omega,by omega⟩
 clear g i k l m o b;go_in;go_wp2
 first|(go_region_with (((go_at_call 334;(with_reducible refine(Kx _ (-x) z HX.o j.o).mono ?_);rintro e P ⟨rfl,c⟩;obtain⟨a,f⟩:=c.cells;(try simp only[Zf,Yf,Tb]at a f);have s:=c.lt (n:=w.heap.size+1) (by go_simp)))))|fail
 all_goals go_wp2
 all_goals exact bR (v:=I #[Y O (- -x),Y O (-z)]) (by simp[results,Tryz.results260,go_sem,a,s]) rfl ⟨rfl,eA⟩
def lK(w:V)(x z:Int)(d:Nat)(q:w.cell? ⟨d,0,X⟩=Z (Y O 7))(p:Gw w)(g:Bd 1000000 x)(i:Bd 1000000 z):Calls Tryz.prog 260 #[I #[Y O x,Y O z],N (Z ⟨d,0,X⟩)] w fun e r=>e=.returned (I #[Y O z,Y O (- -x)])/\oa w r:=by
 obtain⟨y,k,l,m,o⟩:=p;have b:Bd 1000000 (-x):=by unfold Bd at *;omega
 have HX:=ia b;have j:=ia i;have T:d<w.heap.size:=World.block_lt_of_cell? w _ q;have u:d<w.heap.size+1:=oM;have t:0<w.heap.size+1:=oM;have K:w.cell? ⟨0,3,X⟩=Z (.func (.func 335) #[] #[]):=by assumption
 have R:IntKind.i64.wrap (-x) = -x:=by unfold Bd at g;exact iW _ ⟨by omega,by omega⟩
 clear g i k l m o b;go_in;go_wp2
 first|(go_region_with (((go_at_call 335;(with_reducible refine(Ix _ (-x) z HX.o j.o).mono ?_);rintro e P ⟨rfl,c⟩;obtain⟨a,f⟩:=c.cells;(try simp only[Zf,Yf,Tb]at a f);have s:=c.lt (n:=w.heap.size+1) (by go_simp)))))|fail
 all_goals go_wp2
 all_goals exact bR (v:=I #[Y O z,Y O (- -x)]) (by simp[results,Tryz.results260,go_sem,a,s]) rfl ⟨rfl,eA⟩
def Ut(w:V)(x z way:Int)(a:Nat)(c:w.cell? ⟨a,0,X⟩=Z (Y O way))(i:0<=way)(j:way<=7)(b:Gw w)(d:Bd 1000000 x)(f:Bd 1000000 z):Calls Tryz.prog 260 #[I #[Y O x,Y O z],N (Z ⟨a,0,X⟩)] w fun e g=>e=.returned (I #[Y O (jb way (x,z)).1,Y O (jb way (x,z)).2])/\oa w g:=by
 have:way=0\/way=1\/way=2\/way=3\/way=4\/way=5\/way=6\/way=7:=oM;rcases this with rfl|rfl|rfl|rfl|rfl|rfl|rfl|rfl
 ·exact BJ w x z a c b d f
 ·exact AJ w x z a c b d f
 ·exact zJ w x z a c b d f
 ·exact pK w x z a c b d f
 ·exact oK w x z a c b d f
 ·exact nK w x z a c b d f
 ·exact mK w x z a c b d f
 ·exact lK w x z a c b d f
def EI(w:V)(v:M)(ps:LP)(x z:Int)(h:Aa w v ps):Calls Tryz.prog 289 #[v,I #[Y O x,Y O z]] w fun e w'=>e=.returned (Y O (oe (fun p=>(x,z)==p) ps))/\oa w w':=by
 obtain⟨a,c,rfl⟩:=h.form;obtain⟨n,hn⟩:=gX ps.length;rw[hn]at h ⊢;have K:=h.le;unfold maxLen at K;have ab:n<=9223372036854775807:=oM;obtain⟨F,hF⟩:∃F:Int×Int->Bool,F=fun p=>(x,z)==p:=⟨_,rfl⟩;rw[<-hF];have HF:=ia hF;have f:=ia hn;clear hn K hF;go_in;go_wp2;go_loopg [8] n (fun g t8 W=>CC w F ps g t8 W/\W.cell? ⟨w.heap.size,0,X⟩=Z (Y O x)/\W.cell? ⟨w.heap.size,1,X⟩=Z (Y O z))
 case atStart=>exact⟨⟨0,by omega,rfl,by rw[f.o];rfl,eA,fun j y u=>by omega⟩,by go_simp,by go_simp⟩
 case round =>
  obtain⟨⟨i,hi,rfl,rfl,hx,l⟩,k0,k1⟩:=hrel;rw[f.o]at hi;have d:=ia l;clear l;by_cases aa:i<n
  ·obtain⟨q,hq⟩:∃q,ps[i]?=Z q:=⟨ps[i]'(by rw[f.o];omega),by simp[f.o,aa]⟩;obtain⟨P,R⟩:=q;obtain⟨b,o,rfl,hb,d0,d1⟩:=(h.i hx).at' hq;have Hq:=ia hq;clear hq;have p1:(0:Int)<=(i:Int):=oM;have p2:(i:Int)<(n:Int):=oM;by_cases m:x=P
   ·(have f1:(x==P)=true:=by simpa using m);by_cases s:z=R
    ·(have f2:(z==R)=true:=by simpa using s);have e:oe F ps=(i:Int):=Er Hq.o (by rw[HF.o];simp[m,s]) d.o;have E:=ia e;clear e m s;go_wp2;go_quiet (fail);go_wp2;go_ret;exact⟨by rw[E.o];rfl,eA⟩
    ·(have f2:(z==R)=false:=by simpa using s);(have t:F (P,R)=false:=by rw[HF.o];simp[s]);have T:=ia t;clear m s t;go_wp2;go_quiet (fail);go_wp2;go_roundg (n-(i+1))
     case measure=>have:=f.o;omega
     case rel =>
      refine⟨⟨i+1,by have:=f.o;omega,by go_num,by rw[f.o],eA,fun j y u k=>?_⟩,by go_simp,by go_simp⟩;by_cases r:j=i
      ·subst r;rw[Hq.o]at k;cases k;exact T.o
      ·exact d.o j y oM k
   ·(have f1:(x==P)=false:=by simpa using m);(have t:F (P,R)=false:=by rw[HF.o];simp[m]);have T:=ia t;clear m t;go_wp2;go_quiet (fail);go_wp2;go_roundg (n-(i+1))
    case measure=>have:=f.o;omega
    case rel =>
     refine⟨⟨i+1,by have:=f.o;omega,by go_num,by rw[f.o],eA,fun j y u k=>?_⟩,by go_simp,by go_simp⟩;by_cases r:j=i
     ·subst r;rw[Hq.o]at k;cases k;exact T.o
     ·exact d.o j y oM k
  ·obtain rfl:i=n:=oM;have e:oe F ps = -1:=Fr (fun j y u k=>d.o j y (by rw[f.o]at u;exact u) k);have E:=ia e;clear e;go_wp2;go_ret;exact⟨by rw[E.o];rfl,hx⟩
def Ka(ps:LP):Int:=(ps.getD 0 (0,0)).1
def Ma(ps:LP):Int:=(ps.getD (ps.length-1) (0,0)).1
def Qm(w:V)(v:M)(ps:LP)(h:Aa w v ps)(j:0<ps.length):Calls Tryz.prog 45 #[v] w fun e i=>e=.returned (Y O (Ka ps))/\oa w i:=by
 obtain⟨a,c,rfl⟩:=h.form;obtain⟨⟨x,z⟩,d⟩:∃p,ps[0]?=Z p:=⟨ps[0],by simp⟩;obtain⟨b,o,rfl,k,f,g⟩:=h.at' d;simp only[Nat.zero_mul,Nat.add_zero]at f g;have e:Ka ps=x:=by unfold Ka;rw[gD,d];rfl
 rw[e];clear e d h;generalize ps.length=n at *
 go_in;go_wp2;go_ret;exact⟨rfl,eR _⟩
def Vn(w:V)(v:M)(ps:LP)(h:Aa w v ps)(i:0<ps.length):Calls Tryz.prog 46 #[v] w fun e j=>e=.returned (Y O (Ma ps))/\oa w j:=by
 obtain⟨a,c,rfl⟩:=h.form;obtain⟨n,f⟩:∃n,ps.length=n+1:=⟨ps.length-1,by omega⟩;rw[f]at h ⊢;have d:=h.le;rw[f]at d;unfold maxLen at d;obtain⟨⟨x,z⟩,g⟩:∃p,ps[n]?=Z p:=⟨ps[n],by simp⟩;obtain⟨b,o,rfl,m,k,l⟩:=h.at' g;have e:Ma ps=x:=by unfold Ma;rw[f,Nat.add_sub_cancel,gD,g];rfl
 rw[e];have q:((n+1:Nat):Int)-1=(n:Int):=oM;have r:(n:Int)<((n+1:Nat):Int):=oM;have s:n<=9223372036854775806:=oM;clear e g h f d i;go_in;go_wp2;go_ret;exact⟨rfl,eR _⟩
def gM(w:V)(G:Nat)(g:Nat)(t0 c:M)(W:V):Prop:=∃a b:Nat,t0=Y O a/\c=Y O b/\a<=9223372036854775807/\b<=9223372036854775807/\Nat.gcd a b=G/\g=b/\oa w W
def QK(w:V)(a b:Nat)(k:a<=9223372036854775807)(l:b<=9223372036854775807):Calls Tryz.prog 167 #[Y O a,Y O b] w fun e p=>e=.returned (Y O (Nat.gcd a b:Nat))/\oa w p:=by
 obtain⟨G,d⟩:=gX (Nat.gcd a b);rw[d];have f:=ia d;clear d;go_in;go_wp2;go_loopg [0,1] b (gM w G)
 case atStart=>exact⟨a,b,rfl,rfl,k,l,f.o,rfl,eR _⟩
 case round =>
  clear k l f;obtain⟨x,y,rfl,rfl,t,o,m,rfl,c⟩:=hrel;have g:=ia m;clear m;by_cases i:gk=0
  ·subst i;go_wp2;go_ret;exact⟨Ml (Lj (by rw[<-g.o];simp)),c⟩
  ·have q:((gk:Int)==0)=false:=by simp;omega
   have r:((gk:Int) != 0)=true:=by simp;omega
   have s:(1:Int)<=(gk:Int):=oM;have j:0<gk:=oM;clear i;go_wp2;go_quiet (fail);go_wp2;go_roundg (x%gk)
   case measure=>exact Nat.mod_lt x j
   case rel =>
    have n:=Nat.mod_lt x j;exact⟨gk,x%gk,rfl,Lj sM,o,by omega,by rw[<-g.o,Nat.gcd_comm x gk,Nat.gcd_rec gk x,Nat.gcd_comm],rfl,c.drewN _⟩
structure Pl where
 name:ByteArray
 shape:LP
 depth:Int
 density:Int
 gx:Int
 gz:Int
 way:Int
 ax:Int
 az:Int
 skin:Int
def pe(p:Pl)(sl:M):Array M:=#[.string p.name,sl,Y O p.depth,Y O p.density,Y O p.gx,Y O p.gz,Y O p.way,Y O p.ax,Y O p.az,Y .u8 p.skin]
def jd(p q:Pl):Bool:=p.skin==q.skin || p.skin==3 || q.skin==3
def jo(w:V)(p q:Pl)(s t:M)(v:∃a n c,s=J a n c)(x:∃a n c,t=J a n c):Calls Tryz.prog 108 #[I (pe p s),I (pe q t)] w fun e K=>e=.returned (H (jd p q))/\oa w K:=by
 obtain⟨a,n,c,rfl⟩:=v;obtain⟨R,n',c',rfl⟩:=x;obtain⟨nm,sh,d,de,gx,gz,wy,T,W,f⟩:=p;obtain⟨y,z,d',o,r,u,P,l,m,b⟩:=q;unfold jd pe;dsimp only;by_cases g:f=b
 ·have j:(f==b)=true:=by simpa using g
  rw[j];clear g;go_in;go_wp2;go_ret;exact⟨rfl,eA⟩
 have j:(f==b)=false:=by simpa using g
 rw[j];clear g;by_cases i:f=3
 ·have k:(f==3)=true:=by simpa using i
  rw[k];clear i;go_in;go_wp2;go_ret;exact⟨rfl,eA⟩
 have k:(f==3)=false:=by simpa using i
 rw[k];clear i;go_in;go_wp2;go_ret;exact⟨rfl,eA⟩
def Vj(T:TypeId)(k:Nat)(w:V)(cs:List (List M))(e:Ending)(w':V):Prop:=∃v,e=.returned v/\Ga T k w' w.heap.size v cs/\oa w w'
def II(w:V)(n:Nat)(p:n<=1000000000):Calls Tryz.prog 305 #[J X 0 0,Y O n] w (Vj 55 2 w []):=by
 by_cases j:n=0
 ·subst j;go_in;go_wp2;go_ret;exact⟨_,rfl,Ga.nil _ _ _ _,eR _⟩
 ·have m:(1:Int)<=(n:Int):=oM;obtain⟨i,g,d,e,c⟩:=info_parts ul;have a:(Builtin.firstCells i.size 0 (J X 0 0)).run Tryz.prog w.drew = .ok ([]:List M).toArray w.drew:=run_firstCells_none w.drew i.size 0 0 0;have l:∀ty,(Builtin.append_ #[32,3] ty #[J X 0 0,Y O (n:Int)]).run Tryz.prog w = .ok (J (Z ⟨w.heap.size,0,X⟩) n (grownCap w n 0 55)) (w.drew.alloc (.cells (([]:List M).toArray++Builtin.zeroCells (Value.cells (I #[Y O 0,Y O 0])) n++Builtin.zeroCells (Value.cells (I #[Y O 0,Y O 0])) (grownCap w n 0 55-n)) 55)):=fun ty=>by
   have h:=Lib.run_append_grow_zeros w 32 3 ty 55 i (I #[Y O 0,Y O 0]) O O Tryz.underlying32 Tryz.underlying3 g d X 0 0 [] a n oM (by rw[e];omega) oM oM (by rw[c];omega)
    (growslice_fits oM (by rw[c];omega))
   simpa using h
  have o:=grownCap_ge w n 0 55;have b:=grownCap_le_maxLen w n 0 55 (by unfold maxLen;omega);generalize grownCap w n 0 55=G at *
  have k:G<=9223372036854775807:=by unfold maxLen at b;omega
  have f:=ia b;clear a g d e c b;go_in;go_wp2_with(at_builtin;refine Lib.wpList_append_run _ rfl _ _ _ _ rfl _ _ rfl rfl _ _ (l _) ?_);go_ret;refine⟨_,rfl,⟨by simp,rfl,.inr ⟨w.heap.size,G,_,rfl,nE _,aN w.drew _,by simp,f.o,?_,by simp⟩⟩,eA⟩;simp[Builtin.zeroCells,Value.cells];omega
def JI(w:V)(n:Nat)(p:n<=1000000000):Calls Tryz.prog 159 #[J X 0 0,Y O n] w (Vj 55 2 w []):=by
 by_cases j:n=0
 ·subst j;go_in;go_wp2;go_ret;exact⟨_,rfl,Ga.nil _ _ _ _,eR _⟩
 ·have m:(1:Int)<=(n:Int):=oM;obtain⟨i,g,d,e,c⟩:=info_parts ul;have a:(Builtin.firstCells i.size 0 (J X 0 0)).run Tryz.prog w.drew = .ok ([]:List M).toArray w.drew:=run_firstCells_none w.drew i.size 0 0 0;have l:∀ty,(Builtin.append_ #[107,3] ty #[J X 0 0,Y O (n:Int)]).run Tryz.prog w = .ok (J (Z ⟨w.heap.size,0,X⟩) n (grownCap w n 0 55)) (w.drew.alloc (.cells (([]:List M).toArray++Builtin.zeroCells (Value.cells (I #[Y O 0,Y O 0])) n++Builtin.zeroCells (Value.cells (I #[Y O 0,Y O 0])) (grownCap w n 0 55-n)) 55)):=fun ty=>by
   have h:=Lib.run_append_grow_zeros w 107 3 ty 55 i (I #[Y O 0,Y O 0]) O O Tryz.underlying107 Tryz.underlying3 g d X 0 0 [] a n oM (by rw[e];omega) oM oM (by rw[c];omega)
    (growslice_fits oM (by rw[c];omega))
   simpa using h
  have o:=grownCap_ge w n 0 55;have b:=grownCap_le_maxLen w n 0 55 (by unfold maxLen;omega);generalize grownCap w n 0 55=G at *
  have k:G<=9223372036854775807:=by unfold maxLen at b;omega
  have f:=ia b;clear a g d e c b;go_in;go_wp2_with(at_builtin;refine Lib.wpList_append_run _ rfl _ _ _ _ rfl _ _ rfl rfl _ _ (l _) ?_);go_ret;refine⟨_,rfl,⟨by simp,rfl,.inr ⟨w.heap.size,G,_,rfl,nE _,aN w.drew _,by simp,f.o,?_,by simp⟩⟩,eA⟩;simp[Builtin.zeroCells,Value.cells];omega
def Ii(T:TypeId)(w:V)(c:List M)(ps:LP):Prop:=∃v,c=[v]/\Aa w v ps
def Wi(a:List LP):Nat:=a.flatten.length
def Is{a:List LP}{i:Nat}{ps:LP}(h:a[i]?=Z ps):Wi (a.take (i+1))=Wi (a.take i)+ps.length:=by unfold Wi;rw[Xf _ _ _ h,List.flatten_append,lA];simp
def Zl(a:List LP)(i:Nat):Wi (a.take i)<=Wi a:=by
 unfold Wi
 conv=>rhs;rw[<-List.take_append_drop i a,List.flatten_append,lA]
 omega
def GC(w:V)(a:List LP)(g:Nat)(t3 b:M)(W:V):Prop:=
 ∃i:Nat,i<=a.length/\b=Y O i/\t3=Y O (Wi (a.take i))/\g=a.length-i/\oa w W
def FC(w:V)(base:Nat)(a:List LP)(g:Nat)(c b:M)(W:V):Prop:=
 ∃i:Nat,i<=a.length/\b=Y O i/\Ga 55 2 W base c ((a.take i).flatten.map pc)/\g=a.length-i/\oa w W/\base<=W.heap.size
def jw{T:TypeId}{w:V}{v:M}{ps:LP}(h:Sl T 2 PP w v ps):Rd w T 2 v (ps.map pc).length (ps.map pc).flatten:=by
 obtain⟨a,g,j,d,f⟩:=h;have e:a=ps.map pc:=by
  apply List.ext_getElem?;intro i;rw[lP];by_cases k:i<ps.length
  ·have b:a[i]?=Z (a[i]' oM):=gE _;have c:ps[i]?=Z (ps[i]):=gE _;have:=f i _ _ b c;rw[b,c];exact congrArg Z this
  ·rw[List.getElem?_eq_none oM,List.getElem?_eq_none oM];rfl
 subst e;rw[lL];exact d
def tI(w:V)(v:M)(f:List LP)(h:Sl 32 1 (Ii 32) w v f)(ht:Wi f<=1000000000):Calls Tryz.prog 290 #[v] w (Vj 55 2 w (f.flatten.map pc)):=by
 obtain⟨a,c,rfl⟩:=h.form;obtain⟨n,hn⟩:=gX f.length;rw[hn]at h ⊢;have ae:=h.le;unfold maxLen at ae;have au:n<=9223372036854775807:=oM;have r:=ia hn;have Ht:=ia ht;clear hn ae ht;have hP:∀{W:V},oa w W->Sl 32 1 (Ii 32) W (J a n c) f:=fun hx=>h.ext (fun _ _ ⟨v,h1,h2⟩=>⟨v,h1,h2.i hx⟩) hx;go_in;go_wp2;go_loopg [3,11] n (GC w f)
 case atStart=>exact⟨0,by omega,rfl,rfl,by rw[r.o];rfl,eR _⟩
 case round =>
  obtain⟨i,hi,rfl,rfl,rfl,hx⟩:=hrel;rw[r.o]at hi;obtain⟨q,hq⟩:=gX (Wi (f.take i));have av:q<=1000000000:=by rw[<-hq];exact nT (Zl f i) Ht.o
  rw[hq];by_cases al:i<n
  ·obtain⟨ps,l⟩:∃q,f[i]?=Z q:=⟨f[i]'(by rw[r.o];omega),by simp[r.o,al]⟩;obtain⟨b,o,d,rfl,hb,P,⟨v,rfl,hv⟩,hc⟩:=(hP hx).at l;have u:=hc 0 v rfl;simp only[Nat.mul_one,Nat.add_zero]at u;clear hc P;obtain⟨a',c',rfl⟩:=hv.form;have p:=Is l;rw[hq]at p;obtain⟨m,hm⟩:=gX ps.length;rw[hm]at p u;have ar:q+m<=1000000000:=by rw[<-p];exact nT (Zl f (i+1)) Ht.o
   have ai:=ia p;have an:=hv;have Hm:=ia hm;clear p l hq hv hm an;go_wp2;go_roundg (n-(i+1))
   case measure=>have:=r.o;omega
   case rel=>exact⟨i+1,by have:=r.o;omega,by go_num,by rw[ai.o];go_num,by rw[r.o],eA⟩
  ·obtain rfl:i=n:=oM;clear hq;go_wp2_with(((go_at_call 305;(with_reducible refine(II _ q oM).mono ?_);rintro e w1 ⟨v1,rfl,T,x⟩;obtain⟨a1,c1,rfl⟩:=T.form;obtain⟨aj,ak⟩:=x.cells)));have z:=hx.trans x;obtain⟨W0,rfl⟩:∃W0,W0=wr:=⟨_,rfl⟩;go_loopg [6,27] i (FC w W0.heap.size f)
   case atStart=>exact⟨0,by omega,rfl,by simpa using T,by rw[r.o];rfl,z,x.size⟩
   case round =>
    clear x z T aj ak;obtain⟨j,hj,rfl,g,rfl,aa,K⟩:=hrel;rw[r.o]at hj;obtain⟨a2,c2,rfl⟩:=g.form;obtain⟨L2,s⟩:=gX (((f.take j).flatten.map pc).length);(have aq:L2<=1000000000:=by rw[<-s,lL];exact nT (Zl f j) Ht.o);rw[s]at g ⊢;have ag:=hx.size;by_cases af:j<i
    ·obtain⟨ps,l⟩:∃q,f[j]?=Z q:=⟨f[j]'(by rw[r.o];omega),by simp[r.o,af]⟩;obtain⟨b,o,d,rfl,hb,P,⟨v,rfl,hv⟩,hc⟩:=(hP aa).at l;have u:=hc 0 v rfl;simp only[Nat.mul_one,Nat.add_zero]at u;clear hc P;obtain⟨a',c',rfl⟩:=hv.form;have p:=Is l;have y:((f.take j).flatten.map pc).length+(ps.map pc).length<=100000000000:=by
      have:=Zl f (j+1);have h9:=Ht.o;rw[p]at this;unfold Wi at this h9;rw[lL,lL];omega
     have ad:(f.take (j+1)).flatten.map pc=(f.take j).flatten.map pc++ps.map pc:=by
      rw[Xf _ _ _ l,List.flatten_append,List.map_append];simp
     have am:=jw hv;have ah:=ia ad;have ap:=ia s;have ab:=ia y;clear p l ad s y;go_wp2_with(at_builtin;refine Yp (v:=J a2 L2 c2) ul rfl dM dM Tryz.underlying32 rfl _ _ rfl rfl g rfl (ps.map pc) Bo am Ao ab.o K ?_;intro v' w1 t R ao;obtain⟨a3,n3,c3,rfl⟩:=t.j);go_roundg (i-(j+1))
     case measure=>have:=r.o;omega
     case rel =>
      have ac:=Ch R K (fun k hk=>(g.lt k hk).1);exact⟨j+1,by rw[r.o];omega,by go_num,by rw[ah.o];exact t,by rw[r.o],aa.E ac ag,nT K ac.size⟩
    ·obtain rfl:j=i:=oM;(have e:(f.take j).flatten.map pc=f.flatten.map pc:=by rw[lT (by rw[r.o];omega)]);have E:=ia e;clear e s;go_wp2;go_ret;exact⟨_,rfl,by rw[<-E.o];exact g.mono ag,aa⟩
def uI(w:V)(v:M)(f:List LP)(h:Sl 107 1 (Ii 107) w v f)(ht:Wi f<=1000000000):Calls Tryz.prog 86 #[v] w (Vj 55 2 w (f.flatten.map pc)):=by
 obtain⟨a,c,rfl⟩:=h.form;obtain⟨n,hn⟩:=gX f.length;rw[hn]at h ⊢;have ae:=h.le;unfold maxLen at ae;have au:n<=9223372036854775807:=oM;have r:=ia hn;have Ht:=ia ht;clear hn ae ht;have hP:∀{W:V},oa w W->Sl 107 1 (Ii 107) W (J a n c) f:=fun hx=>h.ext (fun _ _ ⟨v,h1,h2⟩=>⟨v,h1,h2.i hx⟩) hx;go_in;go_wp2;go_loopg [3,11] n (GC w f)
 case atStart=>exact⟨0,by omega,rfl,rfl,by rw[r.o];rfl,eR _⟩
 case round =>
  obtain⟨i,hi,rfl,rfl,rfl,hx⟩:=hrel;rw[r.o]at hi;obtain⟨q,hq⟩:=gX (Wi (f.take i));have av:q<=1000000000:=by rw[<-hq];exact nT (Zl f i) Ht.o
  rw[hq];by_cases al:i<n
  ·obtain⟨ps,l⟩:∃q,f[i]?=Z q:=⟨f[i]'(by rw[r.o];omega),by simp[r.o,al]⟩;obtain⟨b,o,d,rfl,hb,P,⟨v,rfl,hv⟩,hc⟩:=(hP hx).at l;have u:=hc 0 v rfl;simp only[Nat.mul_one,Nat.add_zero]at u;clear hc P;obtain⟨a',c',rfl⟩:=hv.form;have p:=Is l;rw[hq]at p;obtain⟨m,hm⟩:=gX ps.length;rw[hm]at p u;have ar:q+m<=1000000000:=by rw[<-p];exact nT (Zl f (i+1)) Ht.o
   have ai:=ia p;have an:=hv;have Hm:=ia hm;clear p l hq hv hm an;go_wp2;go_roundg (n-(i+1))
   case measure=>have:=r.o;omega
   case rel=>exact⟨i+1,by have:=r.o;omega,by go_num,by rw[ai.o];go_num,by rw[r.o],eA⟩
  ·obtain rfl:i=n:=oM;clear hq;go_wp2_with(((go_at_call 159;(with_reducible refine(JI _ q oM).mono ?_);rintro e w1 ⟨v1,rfl,T,x⟩;obtain⟨a1,c1,rfl⟩:=T.form;obtain⟨aj,ak⟩:=x.cells)));have z:=hx.trans x;obtain⟨W0,rfl⟩:∃W0,W0=wr:=⟨_,rfl⟩;go_loopg [6,27] i (FC w W0.heap.size f)
   case atStart=>exact⟨0,by omega,rfl,by simpa using T,by rw[r.o];rfl,z,x.size⟩
   case round =>
    clear x z T aj ak;obtain⟨j,hj,rfl,g,rfl,aa,K⟩:=hrel;rw[r.o]at hj;obtain⟨a2,c2,rfl⟩:=g.form;obtain⟨L2,s⟩:=gX (((f.take j).flatten.map pc).length);(have aq:L2<=1000000000:=by rw[<-s,lL];exact nT (Zl f j) Ht.o);rw[s]at g ⊢;have ag:=hx.size;by_cases af:j<i
    ·obtain⟨ps,l⟩:∃q,f[j]?=Z q:=⟨f[j]'(by rw[r.o];omega),by simp[r.o,af]⟩;obtain⟨b,o,d,rfl,hb,P,⟨v,rfl,hv⟩,hc⟩:=(hP aa).at l;have u:=hc 0 v rfl;simp only[Nat.mul_one,Nat.add_zero]at u;clear hc P;obtain⟨a',c',rfl⟩:=hv.form;have p:=Is l;have y:((f.take j).flatten.map pc).length+(ps.map pc).length<=100000000000:=by
      have:=Zl f (j+1);have h9:=Ht.o;rw[p]at this;unfold Wi at this h9;rw[lL,lL];omega
     have ad:(f.take (j+1)).flatten.map pc=(f.take j).flatten.map pc++ps.map pc:=by
      rw[Xf _ _ _ l,List.flatten_append,List.map_append];simp
     have am:=jw hv;have ah:=ia ad;have ap:=ia s;have ab:=ia y;clear p l ad s y;go_wp2_with(at_builtin;refine Yp (v:=J a2 L2 c2) ul rfl dM dM Tryz.underlying107 rfl _ _ rfl rfl g rfl (ps.map pc) Bo am Ao ab.o K ?_;intro v' w1 t R ao;obtain⟨a3,n3,c3,rfl⟩:=t.j);go_roundg (i-(j+1))
     case measure=>have:=r.o;omega
     case rel =>
      have ac:=Ch R K (fun k hk=>(g.lt k hk).1);exact⟨j+1,by rw[r.o];omega,by go_num,by rw[ah.o];exact t,by rw[r.o],aa.E ac ag,nT K ac.size⟩
    ·obtain rfl:j=i:=oM;(have e:(f.take j).flatten.map pc=f.flatten.map pc:=by rw[lT (by rw[r.o];omega)]);have E:=ia e;clear e s;go_wp2;go_ret;exact⟨_,rfl,by rw[<-E.o];exact g.mono ag,aa⟩
def Oj(r:Int):Bool:=!(decide (97<=r)&&decide (r<=122))&&!(decide (48<=r)&&decide (r<=57))
def yE(w:V)(r:Int):Calls Tryz.prog 231 #[Y .i32 r] w fun e j=>e=.returned (H (Oj r))/\j=w:=by
 unfold Oj;by_cases d:97<=r
 ·have a:decide (97<=r)=true:=by simpa using d
  by_cases f:r<=122
  ·have c:decide (r<=122)=true:=by simpa using f
   go_in;go_wp2;go_ret;exact⟨by simp[a,c],rfl⟩
  ·have c:decide (r<=122)=false:=by simpa using f
   have b:decide (48<=r)=true:=by simp;omega
   have i:decide (r<=57)=false:=by simp;omega
   go_in;go_wp2;go_ret;exact⟨by simp[a,c,b,i],rfl⟩
 ·have a:decide (97<=r)=false:=by simpa using d
  by_cases g:48<=r
  ·have b:decide (48<=r)=true:=by simpa using g
   go_in;go_wp2;go_ret;exact⟨by simp[a,b],rfl⟩
  ·have b:decide (48<=r)=false:=by simpa using g
   go_in;go_wp2;go_ret;exact⟨by simp[a,b],rfl⟩
