/- Part 10. -/
import Derived.Test.YtjnjpagegkcgfaaGreatDoorCosA08
import Derived.Laws.StructEq
set_option maxRecDepth 1000000
set_option maxHeartbeats 16000000
set_option linter.unusedSimpArgs false
set_option linter.unusedVariables false
open Go.Value renaming int->O,slice->V,agg->I,bool->J
open Go.IntKind renaming i64->Y
open Option renaming some->Z,none->X
namespace Go.Proofs.YtjnjpagegkcgfaaGreatDoor.Cop
section
open Go.RowKit Go.Shelf
def lowP(m q:Int×Int):Int×Int:=if lowC q m<0 then q else m
def minP:LP->Int×Int
 | []=>(0,0)
 | p::ps=>ps.foldl lowP p
theorem zfy(ps:LP)(q:Int×Int)(h:ps≠[]):minP (ps++[q])=lowP (minP ps) q:=by
 cases ps with
 | nil=>exact absurd rfl h
 | cons p ps=>simp[minP]
def MnS(w:World)(ps:LP)(g:Nat)(a:Value)(W:World):Prop:=
 ∃i:Nat,1<=i/\i<=ps.length/\a=O Y i/\g=ps.length-i/\Ext w W/\W.heap[w.heap.size]?=Z (.cells #[O Y 0,O Y 0] 43 (0,0)) /\
  ∃x z,minP (ps.take i)=(x,z)/\W.heap[w.heap.size+1]?=Z (.cells #[O Y x,O Y z] 43 (0,0))
theorem zjH(w:World)(v:Value)(ps:LP)(h:IsPts w v ps)(h0:0<ps.length) :
  Calls Tryz.prog 209 #[v,.func (.func 210) #[] #[]] w fun e w'=>e = .returned (I #[O Y (minP ps).1,O Y (minP ps).2])/\Ext w w':=by
 obtain⟨a,c,rfl⟩:=h.form;obtain⟨n,hn⟩:=gX ps.length;rw[hn]at h ⊢;have Q:=h.le;unfold maxLen at Q;have al:0<n:=oM
 have am:(1:Int)<=(n:Int):=oM
 have an:n<=9223372036854775807:=oM
 obtain⟨⟨x0,z0⟩,hp⟩:∃p,ps[0]?=Z p:=⟨ps[0],by simp⟩;obtain⟨b,o,rfl,hb,c0,c1⟩:=h.at' hp;simp only[Nat.zero_mul,Nat.add_zero]at c0 c1;have aj:b<w.heap.size+1:=oM
 have R:minP (ps.take 1)=(x0,z0):=by rw[zab _ _ _ hp];rfl
 have ad:=hd9 R;have f:=hd9 hn;clear hn Q hp h0 R;go_enter Tryz.func209,Tryz.ntmps209;go_wp2
 go_loopg [6] (n-1) (MnS w ps)
 case atStart =>
  exact⟨1,nE _,by rw[f.out];omega,rfl,by rw[f.out],eA,by rw[zaf,if_neg sM];exact qhA _ _ _ rfl,x0,z0,ad.out,qhA _ _ _ sM⟩
 case round =>
  obtain⟨i,ak,hi,rfl,rfl,hx,s,x,z,hv,r⟩:=hrel;rw[f.out]at hi;have r0:=qcB s (i:=0) (u:=O Y 0) rfl;have r1:=qcB s (i:=1) (u:=O Y 0) rfl;have aq:=qfB s 0;have ar:=qfB s 1;have o0:=qcB r (i:=0) (u:=O Y x) rfl;have o1:=qcB r (i:=1) (u:=O Y z) rfl;have ao:=qfB r 0;have ap:=qfB r 1;have zr:=zaa s;have zo:=zaa r;have HR:=hd9 s;have HO:=hd9 r;have HV:=hd9 hv;clear s r hv c0 c1
  by_cases ah:i<n
  ·obtain⟨⟨y,D⟩,hq⟩:∃q,ps[i]?=Z q:=⟨ps[i]'(by rw[f.out];omega),by simp[f.out,ah]⟩
   obtain⟨b',o',e',ai,d0,d1⟩:=(h.ext' hx).at' hq
   cases e'
   have T:ps.take i≠[]:=by
    intro e;have h2:(ps.take i).length=0:=by rw[e];rfl
    rw[List.length_take,f.out]at h2;omega
   have d:minP (ps.take (i+1))=lowP (x,z) (y,D):=by rw[zab _ _ _ hq,zfy _ _ T,HV.out]
   obtain⟨C,hC⟩:=gX (lowC (y,D) (x,z));unfold lowP at d;rw[hC]at d;have P:=hd9 d;have k:=fun W=>zjD W y D x z
   rw[hC]at k;have m:=hd9 k;clear hq d T hC k;have p1:(0:Int)<=(i:Int):=oM
   have p2:(i:Int)<(n:Int):=oM
   by_cases K:C<0
   ·have af:decide (C<0)=true:=by simpa using K
    have L:=hd9 K;clear K;go_wp2
    go_region_held3 (fun W=>W.cell? ⟨b,o+i*2,X⟩=Z (O Y y)/\W.cell? ⟨b,o+i*2+1,X⟩=Z (O Y D)/\W.cell? ⟨w.heap.size+1,0,X⟩=Z (O Y x)/\W.cell? ⟨w.heap.size+1,1,X⟩=Z (O Y z)) ((repeat' (with_reducible refine And.intro ?_ ?_))<;>(first|(go_simp;done)|(refine hx1.cellS ?_;go_simp;done))) (((go_at_call 210;(with_reducible refine(m.out _).mono ?_);rintro e w1 ⟨rfl,hx1⟩;obtain⟨⟨ae,ag⟩,aa,ab⟩:=cK2 w hx1)))
    all_goals go_wp2
    all_goals
     go_roundg (n-(i+1))
     case measure=>have:=f.out;omega
     case rel =>
      have l:Ext wr w1:=(eR wr).drew.trans hx1;have j:=l.heapS HR.out;have g:=l.heapS HO.out;have d:=P.out
      first
       | (rw[if_pos L.out]at d;exact⟨i+1,by omega,by rw[f.out];omega,by go_num,by rw[f.out],eA,by rw[bS _ _ _ _ dO,bS _ _ _ _ dO];exact j,y,D,d,zaj g _ _⟩)
       | (rw[if_neg (by have:=L.out;omega)]at d;exact⟨i+1,by omega,by rw[f.out];omega,by go_num,by rw[f.out],eA,j,x,z,d,g⟩)
   ·have af:decide (C<0)=false:=by simpa using K
    have L:=hd9 K;clear K;go_wp2
    go_region_held3 (fun W=>W.cell? ⟨b,o+i*2,X⟩=Z (O Y y)/\W.cell? ⟨b,o+i*2+1,X⟩=Z (O Y D)/\W.cell? ⟨w.heap.size+1,0,X⟩=Z (O Y x)/\W.cell? ⟨w.heap.size+1,1,X⟩=Z (O Y z)) ((repeat' (with_reducible refine And.intro ?_ ?_))<;>(first|(go_simp;done)|(refine hx1.cellS ?_;go_simp;done))) (((go_at_call 210;(with_reducible refine(m.out _).mono ?_);rintro e w1 ⟨rfl,hx1⟩;obtain⟨⟨ae,ag⟩,aa,ab⟩:=cK2 w hx1)))
    all_goals go_wp2
    all_goals
     go_roundg (n-(i+1))
     case measure=>have:=f.out;omega
     case rel =>
      have l:Ext wr w1:=(eR wr).drew.trans hx1;have j:=l.heapS HR.out;have g:=l.heapS HO.out;have d:=P.out
      first
       | (rw[if_pos L.out]at d;exact⟨i+1,by omega,by rw[f.out];omega,by go_num,by rw[f.out],eA,by rw[bS _ _ _ _ dO,bS _ _ _ _ dO];exact j,y,D,d,zaj g _ _⟩)
       | (rw[if_neg (by have:=L.out;omega)]at d;exact⟨i+1,by omega,by rw[f.out];omega,by go_num,by rw[f.out],eA,j,x,z,d,g⟩)
  ·obtain rfl:i=n:=oM
   have t:=HV.out;rw[lT (by rw[f.out];omega)]at t;have ac:=hd9 t;clear t;go_wp2;refine bR (v:=I #[O Y x,O Y z]) (by simp[results,Tryz.results209,go_sem,r0,r1]) rfl ⟨?_,eA⟩;rw[ac.out]
def placedB(ps:LP):Bool:=!(ps.any farB)&&convexB ps&&(leastP ps==(0,0))&&(minP ps==ps.getD 0 (0,0))
theorem zdS{ps:LP}(h:ps.any farB=true):placedB ps=false:=by simp[placedB,h]
theorem zbH{ps:LP}(h:convexB ps=false):placedB ps=false:=by simp[placedB,h]
theorem zma{ps:LP}(h:ps.any farB=false):PBd 2000 ps:=by
 intro p b;have a:=(List.any_eq_false.1 h) p b;simp[farB,wthn]at a;unfold Bd;omega
theorem PBd.mono{j k:Int}{ps:LP}(h:PBd j ps)(a:j<=k):PBd k ps:=fun p b=>⟨(h p b).1.mono a,(h p b).2.mono a⟩
theorem zci{ps:LP}(h:convexB ps=true):3<=ps.length/\ps.length<=12:=by
 unfold convexB at h;rw[Bool.and_eq_true]at h;have:=h.1;simp[wthn]at this;omega
theorem zia(w:World)(v:Value)(ps:LP)(h:IsPts w v ps) :
  Calls Tryz.prog 162 #[v] w fun e Q=>e = .returned (J (placedB ps))/\Ext w Q:=by
 obtain⟨a,c,rfl⟩:=h.form;obtain⟨n,hn⟩:=gX ps.length;rw[hn]at h ⊢;have i:=fun W (hW:Ext w W)=>ziL W (V a n c) ps (h.ext' hW)
 by_cases hf:ps.any farB=true
 ·rw[zdS hf]
  rw[hf]at i;have g:=hd9 i;clear i hf;go_enter Tryz.func162,Tryz.ntmps162
  go_wp2_with(((go_at_call 206;(with_reducible refine(g.out _ ?_).mono ?_);exact eA;rintro e w1 ⟨rfl,d⟩)))
  go_ret;exact⟨rfl,eA⟩
 have D:ps.any farB=false:=by simpa using hf
 have ag:=zma D;rw[D]at i;have g:=hd9 i;have u:=fun W (hW:Ext w W)=>zhP W (V a n c) ps (h.ext' hW) (ag.mono dM)
 by_cases hc:convexB ps=true
 ·have al:=zci hc
  have h0:0<ps.length:=oM
  rw[hc]at u;have q:=hd9 u;have ai:=fun W (hW:Ext w W)=>zfw W (V a n c) ps (h.ext' hW) h0
  have ak:=fun W (hW:Ext w W)=>zjH W (V a n c) ps (h.ext' hW) h0
  obtain⟨⟨lx,lz⟩,hl⟩:∃p,leastP ps=p:=⟨_,rfl⟩;obtain⟨⟨t,mz⟩,hm⟩:∃p,minP ps=p:=⟨_,rfl⟩;obtain⟨⟨m,r⟩,hp⟩:∃p,ps[0]?=Z p:=⟨ps[0],by simp⟩;rw[hl]at ai;rw[hm]at ak
  have am:placedB ps=((decide (lx=0)&&decide (lz=0))&&(decide (t=m)&&decide (mz=r))):=by
   unfold placedB;rw[D,hc,hl,hm,gD,hp];rw[Bool.eq_iff_iff];simp[and_assoc]
  rw[am];have x:=hd9 ai;have ad:=hd9 ak;obtain⟨b,o,rfl,hb,c0,c1⟩:=h.at' hp;simp only[Nat.zero_mul,Nat.add_zero]at c0 c1;have ap:(0:Int)<(n:Int):=by rw[hn]at h0;omega
  clear ai ak u i hf D hc hl hm hp am hn al ag h0
  by_cases aj:lx=0/\lz=0
  ·obtain⟨rfl,rfl⟩:=aj
   have aq:0<n:=oM
   have ae:t=m/\mz=r->Calls Tryz.prog 162 #[V (Z ⟨b,o,X⟩) n c] w fun e Q=>e = .returned (J ((decide ((0:Int)=0)&&decide ((0:Int)=0))&&(decide (t=m)&&decide (mz=r))))/\Ext w Q:=by
    intro j;have f1:(t==m)=true:=(by simpa using j.1);have f2:(mz==r)=true:=(by simpa using j.2);have g1:(decide (t=m)&&decide (mz=r))=true:=(by simp[j.1,j.2]);rw[g1];clear g1 j;go_enter Tryz.func162,Tryz.ntmps162
    go_wp2_with(first|((go_at_call 206;(with_reducible refine(g.out _ ?_).mono ?_);exact eA;rintro e w1 ⟨rfl,d⟩;obtain⟨T,ab⟩:=d.cells;(have l:=d.lt hb)))|((go_at_call 207;(with_reducible refine(q.out _ ?_).mono ?_);exact eA;rintro e w2 ⟨rfl,f⟩;obtain⟨aa,ac⟩:=f.cells;(have s:=f.lt l))))
    have R:b<w2.heap.size:=s
    go_region_held3 (fun W=>W.cell? ⟨b,o,X⟩=Z (O Y m)/\W.cell? ⟨b,o+1,X⟩=Z (O Y r)) ((repeat' (with_reducible refine And.intro ?_ ?_))<;>(first|(go_simp;done)|(refine d.cellS ?_;go_simp;done))) (first|((go_at_call 208;(with_reducible refine(x.out _ ?_).mono ?_);exact eA;rintro e w3 ⟨rfl,k⟩;obtain⟨y,K⟩:=k.cells;(try simp only[qcD,qfD,qdZ]at y K);(have an:=k.lt R)))|((go_at_call 209;(with_reducible refine(ad.out _ ?_).mono ?_);exact eA;rintro e w4 ⟨rfl,P⟩;obtain⟨z,L⟩:=P.cells;(try simp only[qcD,qfD,qdZ]at z L))))
    all_goals go_wp2
    go_ret;exact⟨rfl,eA⟩
   have af:t=m/\mz≠r->Calls Tryz.prog 162 #[V (Z ⟨b,o,X⟩) n c] w fun e Q=>e = .returned (J ((decide ((0:Int)=0)&&decide ((0:Int)=0))&&(decide (t=m)&&decide (mz=r))))/\Ext w Q:=by
    intro j;have f1:(t==m)=true:=(by simpa using j.1);have f2:(mz==r)=false:=(by simpa using j.2);have g1:(decide (t=m)&&decide (mz=r))=false:=(by simp[j.2]);rw[g1];clear g1 j;go_enter Tryz.func162,Tryz.ntmps162
    go_wp2_with(first|((go_at_call 206;(with_reducible refine(g.out _ ?_).mono ?_);exact eA;rintro e w1 ⟨rfl,d⟩;obtain⟨T,ab⟩:=d.cells;(have l:=d.lt hb)))|((go_at_call 207;(with_reducible refine(q.out _ ?_).mono ?_);exact eA;rintro e w2 ⟨rfl,f⟩;obtain⟨aa,ac⟩:=f.cells;(have s:=f.lt l))))
    have R:b<w2.heap.size:=s
    go_region_held3 (fun W=>W.cell? ⟨b,o,X⟩=Z (O Y m)/\W.cell? ⟨b,o+1,X⟩=Z (O Y r)) ((repeat' (with_reducible refine And.intro ?_ ?_))<;>(first|(go_simp;done)|(refine d.cellS ?_;go_simp;done))) (first|((go_at_call 208;(with_reducible refine(x.out _ ?_).mono ?_);exact eA;rintro e w3 ⟨rfl,k⟩;obtain⟨y,K⟩:=k.cells;(try simp only[qcD,qfD,qdZ]at y K);(have an:=k.lt R)))|((go_at_call 209;(with_reducible refine(ad.out _ ?_).mono ?_);exact eA;rintro e w4 ⟨rfl,P⟩;obtain⟨z,L⟩:=P.cells;(try simp only[qcD,qfD,qdZ]at z L))))
    all_goals go_wp2
    go_ret;exact⟨rfl,eA⟩
   have ao:t≠m->Calls Tryz.prog 162 #[V (Z ⟨b,o,X⟩) n c] w fun e Q=>e = .returned (J ((decide ((0:Int)=0)&&decide ((0:Int)=0))&&(decide (t=m)&&decide (mz=r))))/\Ext w Q:=by
    intro j;have f1:(t==m)=false:=(by simpa using j);have g1:(decide (t=m)&&decide (mz=r))=false:=(by simp[j]);rw[g1];clear g1 j;go_enter Tryz.func162,Tryz.ntmps162
    go_wp2_with(first|((go_at_call 206;(with_reducible refine(g.out _ ?_).mono ?_);exact eA;rintro e w1 ⟨rfl,d⟩;obtain⟨T,ab⟩:=d.cells;(have l:=d.lt hb)))|((go_at_call 207;(with_reducible refine(q.out _ ?_).mono ?_);exact eA;rintro e w2 ⟨rfl,f⟩;obtain⟨aa,ac⟩:=f.cells;(have s:=f.lt l))))
    have R:b<w2.heap.size:=s
    go_region_held3 (fun W=>W.cell? ⟨b,o,X⟩=Z (O Y m)/\W.cell? ⟨b,o+1,X⟩=Z (O Y r)) ((repeat' (with_reducible refine And.intro ?_ ?_))<;>(first|(go_simp;done)|(refine d.cellS ?_;go_simp;done))) (first|((go_at_call 208;(with_reducible refine(x.out _ ?_).mono ?_);exact eA;rintro e w3 ⟨rfl,k⟩;obtain⟨y,K⟩:=k.cells;(try simp only[qcD,qfD,qdZ]at y K);(have an:=k.lt R)))|((go_at_call 209;(with_reducible refine(ad.out _ ?_).mono ?_);exact eA;rintro e w4 ⟨rfl,P⟩;obtain⟨z,L⟩:=P.cells;(try simp only[qcD,qfD,qdZ]at z L))))
    all_goals go_wp2
    go_ret;exact⟨rfl,eA⟩
   by_cases e1:t=m
   ·by_cases e2:mz=r
    ·exact ae ⟨e1,e2⟩
    ·exact af ⟨e1,e2⟩
   ·exact ao e1
  ·have hz:(decide (lx=0)&&decide (lz=0))=false:=by
    rw[Bool.and_eq_false_iff]
    by_cases h1:lx=0
    ·right;simp;exact fun h2=>aj ⟨h1,h2⟩
    ·left;simpa using h1
   rw[hz];clear hz;rw[Bool.false_and]
   have ae:lx=0/\lz≠0->Calls Tryz.prog 162 #[V (Z ⟨b,o,X⟩) n c] w fun e Q=>e = .returned (J false)/\Ext w Q:=by
    intro j;have f1:(lx==0)=true:=(by simpa using j.1);have f2:(lz==0)=false:=(by simpa using j.2);clear j;go_enter Tryz.func162,Tryz.ntmps162
    go_wp2_with(first|((go_at_call 206;(with_reducible refine(g.out _ ?_).mono ?_);exact eA;rintro e w1 ⟨rfl,d⟩;obtain⟨T,ab⟩:=d.cells;(have l:=d.lt hb)))|((go_at_call 207;(with_reducible refine(q.out _ ?_).mono ?_);exact eA;rintro e w2 ⟨rfl,f⟩;obtain⟨aa,ac⟩:=f.cells;(have s:=f.lt l))))
    first|(go_region_with (((go_at_call 208;(with_reducible refine(x.out _ ?_).mono ?_);exact eA;rintro e w3 ⟨rfl,k⟩))))|fail
    all_goals go_wp2
    all_goals go_ret
    all_goals exact⟨rfl,eA⟩
   have af:lx≠0->Calls Tryz.prog 162 #[V (Z ⟨b,o,X⟩) n c] w fun e Q=>e = .returned (J false)/\Ext w Q:=by
    intro j;have f1:(lx==0)=false:=(by simpa using j);clear j;go_enter Tryz.func162,Tryz.ntmps162
    go_wp2_with(first|((go_at_call 206;(with_reducible refine(g.out _ ?_).mono ?_);exact eA;rintro e w1 ⟨rfl,d⟩;obtain⟨T,ab⟩:=d.cells;(have l:=d.lt hb)))|((go_at_call 207;(with_reducible refine(q.out _ ?_).mono ?_);exact eA;rintro e w2 ⟨rfl,f⟩;obtain⟨aa,ac⟩:=f.cells;(have s:=f.lt l))))
    first|(go_region_with (((go_at_call 208;(with_reducible refine(x.out _ ?_).mono ?_);exact eA;rintro e w3 ⟨rfl,k⟩))))|fail
    all_goals go_wp2
    all_goals go_ret
    all_goals exact⟨rfl,eA⟩
   by_cases e1:lx=0
   ·exact ae ⟨e1,fun h2=>aj ⟨e1,h2⟩⟩
   ·exact af e1
 ·have ah:convexB ps=false:=by simpa using hc
  rw[zbH ah];rw[ah]at u;have q:=hd9 u;clear u hc ah i hf D ag;go_enter Tryz.func162,Tryz.ntmps162
  go_wp2_with(first|((go_at_call 206;(with_reducible refine(g.out _ ?_).mono ?_);exact eA;rintro e w1 ⟨rfl,d⟩))|((go_at_call 207;(with_reducible refine(q.out _ ?_).mono ?_);exact eA;rintro e w2 ⟨rfl,f⟩)))
  go_ret;exact⟨rfl,eA⟩
theorem zhA(w:World)(x z:Int)(a:Bd 1000000 x)(b:Bd 1000000 z) :
  Calls Tryz.prog 327 #[I #[O Y x,O Y z]] w fun e c=>e = .returned (I #[O Y x,O Y z])/\Ext w c:=by
 obtain⟨d,f⟩:=a;obtain⟨g,i⟩:=b;have j:IntKind.i64.wrap (-x) = -x:=iW _ ⟨by omega,by omega⟩;have k:IntKind.i64.wrap (-z) = -z:=iW _ ⟨by omega,by omega⟩;go_enter Tryz.func327,Tryz.ntmps327;go_wp2;exact bR (v:=I #[O Y x,O Y z]) (by simp[results,Tryz.results327,go_sem]) rfl ⟨rfl,eA⟩
theorem zhB(w:World)(x z:Int)(a:Bd 1000000 x)(b:Bd 1000000 z) :
  Calls Tryz.prog 328 #[I #[O Y x,O Y z]] w fun e c=>e = .returned (I #[O Y (-z),O Y x])/\Ext w c:=by
 obtain⟨d,f⟩:=a;obtain⟨g,i⟩:=b;have j:IntKind.i64.wrap (-x) = -x:=iW _ ⟨by omega,by omega⟩;have k:IntKind.i64.wrap (-z) = -z:=iW _ ⟨by omega,by omega⟩;go_enter Tryz.func328,Tryz.ntmps328;go_wp2;exact bR (v:=I #[O Y (-z),O Y x]) (by simp[results,Tryz.results328,go_sem]) rfl ⟨rfl,eA⟩
theorem zhC(w:World)(x z:Int)(a:Bd 1000000 x)(b:Bd 1000000 z) :
  Calls Tryz.prog 329 #[I #[O Y x,O Y z]] w fun e c=>e = .returned (I #[O Y (-x),O Y (-z)])/\Ext w c:=by
 obtain⟨d,f⟩:=a;obtain⟨g,i⟩:=b;have j:IntKind.i64.wrap (-x) = -x:=iW _ ⟨by omega,by omega⟩;have k:IntKind.i64.wrap (-z) = -z:=iW _ ⟨by omega,by omega⟩;go_enter Tryz.func329,Tryz.ntmps329;go_wp2;exact bR (v:=I #[O Y (-x),O Y (-z)]) (by simp[results,Tryz.results329,go_sem]) rfl ⟨rfl,eA⟩
theorem zhD(w:World)(x z:Int)(a:Bd 1000000 x)(b:Bd 1000000 z) :
  Calls Tryz.prog 330 #[I #[O Y x,O Y z]] w fun e c=>e = .returned (I #[O Y z,O Y (-x)])/\Ext w c:=by
 obtain⟨d,f⟩:=a;obtain⟨g,i⟩:=b;have j:IntKind.i64.wrap (-x) = -x:=iW _ ⟨by omega,by omega⟩;have k:IntKind.i64.wrap (-z) = -z:=iW _ ⟨by omega,by omega⟩;go_enter Tryz.func330,Tryz.ntmps330;go_wp2;exact bR (v:=I #[O Y z,O Y (-x)]) (by simp[results,Tryz.results330,go_sem]) rfl ⟨rfl,eA⟩
def pfarB(n:Int):Bool:=decide (n < -100000) || decide (100000<n)
theorem za7(w:World)(n:Int):Calls Tryz.prog 92 #[O Y n] w fun e b=>e = .returned (J (pfarB n))/\Ext w b:=by
 unfold pfarB
 by_cases h:n < -100000
 ·have a:decide (n < -100000)=true:=by simpa using h
  go_enter Tryz.func92,Tryz.ntmps92;go_wp2;go_ret;exact⟨by simp[a],eA⟩
 ·have a:decide (n < -100000)=false:=by simpa using h
  go_enter Tryz.func92,Tryz.ntmps92;go_wp2;go_ret;exact⟨by simp[a],eA⟩
theorem zfF(w:World)(n:Int):Calls Tryz.prog 92 #[O Y n] w fun e b=>e = .returned (J (pfarB n))/\b=w:=by
 unfold pfarB
 by_cases h:n < -100000
 ·have a:decide (n < -100000)=true:=by simpa using h
  go_enter Tryz.func92,Tryz.ntmps92;go_wp2;go_ret;exact⟨by simp[a],rfl⟩
 ·have a:decide (n < -100000)=false:=by simpa using h
  go_enter Tryz.func92,Tryz.ntmps92;go_wp2;go_ret;exact⟨by simp[a],rfl⟩
theorem zjn(w:World)(v:Value)(ps:LP)(x z:Int)(h:IsPts w v ps) :
  Calls Tryz.prog 238 #[v,I #[O Y x,O Y z]] w fun e w'=>e = .returned (O Y (idxB (fun p=>(x,z)==p) ps))/\Ext w w':=by
 obtain⟨a,c,rfl⟩:=h.form;obtain⟨n,hn⟩:=gX ps.length;rw[hn]at h ⊢;have D:=h.le;unfold maxLen at D;have ab:n<=9223372036854775807:=oM
 obtain⟨F,T⟩:∃F:Int×Int->Bool,F=fun p=>(x,z)==p:=⟨_,rfl⟩
 rw[<-T];have Q:=hd9 T;have f:=hd9 hn;clear hn D T;go_enter Tryz.func238,Tryz.ntmps238;go_wp2
 go_loopg [8] n (fun g t8 W=>IxS w F ps g t8 W/\W.cell? ⟨w.heap.size,0,X⟩=Z (O Y x)/\W.cell? ⟨w.heap.size,1,X⟩=Z (O Y z))
 case atStart=>exact⟨⟨0,by omega,rfl,by rw[f.out];rfl,eA,fun j y u=>by omega⟩,by go_simp,by go_simp⟩
 case round =>
  obtain⟨⟨i,hi,rfl,rfl,hx,l⟩,k0,k1⟩:=hrel;rw[f.out]at hi;have d:=hd9 l;clear l
  by_cases aa:i<n
  ·obtain⟨q,hq⟩:∃q,ps[i]?=Z q:=⟨ps[i]'(by rw[f.out];omega),by simp[f.out,aa]⟩
   obtain⟨K,L⟩:=q;obtain⟨b,o,rfl,hb,d0,d1⟩:=(h.ext' hx).at' hq;have R:=hd9 hq;clear hq;have p1:(0:Int)<=(i:Int):=oM
   have p2:(i:Int)<(n:Int):=oM
   by_cases m:x=K
   ·have f1:(x==K)=true:=by simpa using m
    by_cases s:z=L
    ·have f2:(z==L)=true:=by simpa using s
     have e:idxB F ps=(i:Int):=zcy R.out (by rw[Q.out];simp[m,s]) d.out;have E:=hd9 e;clear e m s;go_wp2
     go_quiet (fail)
     go_wp2;go_ret;exact⟨by rw[E.out];rfl,eA⟩
    ·have f2:(z==L)=false:=by simpa using s
     have t:F (K,L)=false:=by rw[Q.out];simp[s]
     have P:=hd9 t;clear m s t;go_wp2
     go_quiet (fail)
     go_wp2
     go_roundg (n-(i+1))
     case measure=>have:=f.out;omega
     case rel =>
      refine⟨⟨i+1,by have:=f.out;omega,by go_num,by rw[f.out],eA,fun j y u k=>?_⟩,by go_simp,by go_simp⟩
      by_cases r:j=i
      ·subst r;rw[R.out]at k;cases k;exact P.out
      ·exact d.out j y oM k
   ·have f1:(x==K)=false:=by simpa using m
    have t:F (K,L)=false:=by rw[Q.out];simp[m]
    have P:=hd9 t;clear m t;go_wp2
    go_quiet (fail)
    go_wp2
    go_roundg (n-(i+1))
    case measure=>have:=f.out;omega
    case rel =>
     refine⟨⟨i+1,by have:=f.out;omega,by go_num,by rw[f.out],eA,fun j y u k=>?_⟩,by go_simp,by go_simp⟩
     by_cases r:j=i
     ·subst r;rw[R.out]at k;cases k;exact P.out
     ·exact d.out j y oM k
  ·obtain rfl:i=n:=oM
   have e:idxB F ps = -1:=zcx (fun j y u k=>d.out j y (by rw[f.out]at u;exact u) k);have E:=hd9 e;clear e;go_wp2;go_ret;exact⟨by rw[E.out];rfl,hx⟩
end
end Go.Proofs.YtjnjpagegkcgfaaGreatDoor.Cop
