/- Part 7: contracts of what the law calls. -/
import Derived.Test.YtodpfeaihohpjaaGreatDoorCopA05
import Derived.Laws.StructEq
set_option maxRecDepth 1000000
set_option maxHeartbeats 16000000
set_option linter.unusedSimpArgs false
set_option linter.unusedVariables false
open Option renaming some→O,none→J
open Go.IntKind renaming i64→Y
open Go.Value renaming int→Z,slice→I,agg→M,bool→N
open Go renaming Value→X,World→V
namespace Go.Proofs.YtodpfeaihohpjaaGreatDoor.Cop
section
open Go.RowKit Go.Shelf
def orL:List Int→Int
 | []=>0
 | x::xs=>if x=0 then orL xs else x
theorem zmg:∀{xs:List Int} {i:Nat} {x:Int},xs[i]?=O x→x≠0→(∀j y,j<i→xs[j]?=O y→y=0)→orL xs=x
 | [],_,_,h,_,_=>by simp at h
 | y::ys,0,x,h,h0,_=>by simp at h;subst h;simp [orL,h0]
 | y::ys,i+1,x,h,h0,hn=>by
  have d:y=0:=hn 0 y oM rfl;rw [orL,if_pos d];exact zmg (by simpa using h) h0 (fun j z f e=>hn (j+1) z oM (by simpa using e))
theorem zhB:∀{xs:List Int},(∀(j:Nat) (y:Int),xs[j]?=O y→y=0)→orL xs=0
 | [],_=>rfl
 | y::ys,h=>by rw [orL,if_pos (h 0 y rfl)];exact zhB (fun j z d=>h (j+1) z (by simpa using d))
def OrS (w:V) (xs:List Int) (g:Nat) (d:X) (W:V):Prop:=
 ∃i:Nat,i≤xs.length∧d=Z Y i∧g=xs.length-i∧Ext w W∧∀j y,j<i→xs[j]?=O y→y=0
theorem znY (w:V) (v:X) (xs:List Int) (h:Ints 3 w v xs) :
  Calls Tryz.prog 231 #[v] w fun e w'=>e = .returned (Z Y (orL xs))∧Ext w w':=by
 obtain⟨a,c,rfl⟩:=h.form;obtain⟨n,u⟩:=gX xs.length;rw [u]at h ⊢;have q:=h.le;unfold maxLen at q;have ab:n≤9223372036854775807:=oM
 have f:=hd9 u;clear u q;go_enter Tryz.func231,Tryz.ntmps231;go_wp2
 go_loopg [8] n (OrS w xs)
 case atStart=>exact⟨0,by omega,rfl,by rw [f.out];rfl,eR _,fun j y hj=>by omega⟩
 case round =>
  obtain⟨i,hi,rfl,rfl,r,l⟩:=hrel;rw [f.out]at hi;have d:=hd9 l;clear l
  by_cases t:i<n
  ·obtain⟨x,z⟩:∃x,xs[i]?=O x:=⟨xs[i]'(by rw [f.out];omega),by simp [f.out,t]⟩
   obtain⟨b,o,rfl,hb,K⟩:=(h.ext r).open (by rw [f.out];omega);have aa:=K i x z;have D:=hd9 z;clear z K
   by_cases p:x=0
   ·subst p
    go_wp2
    go_roundg (n-(i+1))
    case measure=>have:=f.out;omega
    case rel =>
     refine⟨i+1,by have:=f.out;omega,by go_num,by rw [f.out],r,fun j y hj m=>?_⟩
     by_cases s:j=i
     ·subst s;rw [D.out]at m;cases m;rfl
     ·exact d.out j y oM m
   ·have e:orL xs=x:=zmg D.out p d.out
    have E:=hd9 e;have Q:(x != 0)=true:=by simpa using p
    have W:(x==0)=false:=by simpa using p
    clear e p;go_wp2;go_ret;exact⟨by rw [E.out];rfl,r⟩
  ·obtain rfl:i=n:=oM
   have e:orL xs=0:=zhB (fun j y m=>d.out j y (by have:=(lS.1 m).1;rw [f.out]at this;exact this) m);have E:=hd9 e;clear e;go_wp2;go_ret;exact⟨by rw [E.out];rfl,r⟩
theorem zj5 (w:V) (v:X) (xs:List Int) (h:Ints 3 w v xs) :
  Calls Tryz.prog 213 #[v] w fun e w'=>e = .returned (Z Y (orL xs))∧Ext w w':=by
 obtain⟨x,f⟩:=gX (orL xs);have d:=fun W (j:Ext w W)=>znY W v xs (h.ext j)
 rw [f]at *;have i:=hd9 d;clear d f;go_enter Tryz.func213,Tryz.ntmps213
 go_wp2_with(((go_at_call 231;(with_reducible refine(i.out _ ?_).mono ?_);exact eA;rintro e m ⟨rfl,l⟩)))
 go_ret;exact⟨rfl,eA⟩
def lowC (p q:Int×Int):Int:=orL [cmp3 p.2 q.2,cmp3 p.1 q.1]
theorem ints2 (W:V) (x y:Int):Ints 3 (W.alloc (.cells #[Z Y x,Z Y y] 3)) (I (O ⟨W.heap.size,0,J⟩) 2 2) [x,y]:=by
 refine⟨rfl,_,_,rfl,nE _,by unfold maxLen;omega,.inr ⟨W.heap.size,0,_,_,rfl,aN W _,?_⟩⟩;intro i v hv
 match i,hv with
 | 0,hv=>simpa [lits] using hv
 | 1,hv=>simpa [lits] using hv
 | i+2,hv=>simp [lits]at hv
theorem zjP (w:V) (d f h i:Int) :
  Calls Tryz.prog 171 #[M #[Z Y d,Z Y f],M #[Z Y h,Z Y i]] w fun e w'=>e = .returned (Z Y (lowC (d,f) (h,i)))∧Ext w w':=by
 obtain⟨r,m⟩:=gX (lowC (d,f) (h,i));rw [m];have K:Hid (orL [cmp3 f i,cmp3 d h]=r):=hd9 m;clear m;go_enter Tryz.func171,Tryz.ntmps171;go_wp2
 go_region_held3 (fun W=>W.cell? ⟨w.heap.size,0,J⟩=O (Z Y d)∧W.cell? ⟨w.heap.size,1,J⟩=O (Z Y f)∧W.cell? ⟨w.heap.size+1,0,J⟩=O (Z Y h)∧W.cell? ⟨w.heap.size+1,1,J⟩=O (Z Y i)) ((repeat' (with_reducible refine And.intro ?_ ?_))<;>(first|(go_simp;done)|(refine hx1.cellS ?_;go_simp;done))) (first|((go_at_call 214;(with_reducible refine(zdM _ f i).mono ?_);rintro e w1 ⟨rfl,hx1⟩;obtain⟨⟨Q,ac⟩,t,u⟩:=cK2 w hx1))|((go_at_call 214;(with_reducible refine(zdM _ d h).mono ?_);rintro e s ⟨rfl,p⟩;obtain⟨⟨aa,ad⟩,x,y⟩:=cK2 w p;have j:w.heap.size<s.heap.size+1:=oM;have l:w.heap.size+1<s.heap.size+1:=oM))|((go_at_call 213;(with_reducible refine(zj5 _ (I (O ⟨s.heap.size,0,J⟩) 2 2) [cmp3 f i,cmp3 d h] ?_).mono ?_);(refine ints2 _ _ _);rw [K.out];rintro e w3 ⟨rfl,q⟩;obtain⟨⟨ab,ae⟩,z,D⟩:=cK2 w q)))
 all_goals go_wp2
 go_ret;exact⟨rfl,eA⟩
def lowP (m q:Int×Int):Int×Int:=if lowC q m<0 then q else m
def minP:List (Int×Int)→Int×Int
 | []=>(0,0)
 | p::ps=>ps.foldl lowP p
theorem zjT (ps:List (Int×Int)) (q:Int×Int) (h:ps≠[]):minP (ps++[q])=lowP (minP ps) q:=by
 cases ps with
 | nil=>exact absurd rfl h
 | cons p ps=>simp [minP]
def MnS (w:V) (ps:List (Int×Int)) (g:Nat) (d:X) (W:V):Prop:=
 ∃i:Nat,1≤i∧i≤ps.length∧d=Z Y i∧g=ps.length-i∧Ext w W∧W.heap[w.heap.size]?=O (.cells #[Z Y 0,Z Y 0] 33 (0,0)) ∧
  ∃x z,minP (ps.take i)=(x,z)∧W.heap[w.heap.size+1]?=O (.cells #[Z Y x,Z Y z] 33 (0,0))
theorem zjU (w:V) (v:X) (ps:List (Int×Int)) (h:IsPts w v ps) (h0:0<ps.length) :
  Calls Tryz.prog 170 #[v,.func (.func 171) #[] #[]] w fun e w'=>e = .returned (M #[Z Y (minP ps).1,Z Y (minP ps).2])∧Ext w w':=by
 obtain⟨a,c,rfl⟩:=h.form;obtain⟨n,hn⟩:=gX ps.length;rw [hn]at h ⊢;have ab:=h.le;unfold maxLen at ab;have ap:0<n:=oM
 have aq:(1:Int)≤(n:Int):=oM
 have ar:n≤9223372036854775807:=oM
 obtain⟨⟨x0,z0⟩,hp⟩:∃p,ps[0]?=O p:=⟨ps[0],by simp⟩;obtain⟨b,o,rfl,hb,c0,c1⟩:=h.at' hp;simp only [Nat.zero_mul,Nat.add_zero]at c0 c1;have an:b<w.heap.size+1:=oM
 have ac:minP (ps.take 1)=(x0,z0):=by rw [zab _ _ _ hp];rfl
 have ah:=hd9 ac;have f:=hd9 hn;clear hn ab hp h0 ac;go_enter Tryz.func170,Tryz.ntmps170;go_wp2
 go_loopg [6] (n-1) (MnS w ps)
 case atStart =>
  exact⟨1,nE _,by rw [f.out];omega,rfl,by rw [f.out],eA,by rw [zai,if_neg sM];exact qhA _ _ _ rfl,x0,z0,ah.out,qhA _ _ _ sM⟩
 case round =>
  obtain⟨i,ao,hi,rfl,rfl,hx,y,x,z,hv,t⟩:=hrel;rw [f.out]at hi;have r0:=qcB y (i:=0) (u:=Z Y 0) rfl;have r1:=qcB y (i:=1) (u:=Z Y 0) rfl;have aw:=qfB y 0;have ax:=qfB y 1;have o0:=qcB t (i:=0) (u:=Z Y x) rfl;have o1:=qcB t (i:=1) (u:=Z Y z) rfl;have au:=qfB t 0;have av:=qfB t 1;have zr:=zaa y;have zo:=zaa t;have HR:=hd9 y;have HO:=hd9 t;have HV:=hd9 hv;clear y t hv c0 c1
  by_cases al:i<n
  ·obtain⟨⟨K,Q⟩,hq⟩:∃q,ps[i]?=O q:=⟨ps[i]'(by rw [f.out];omega),by simp [f.out,al]⟩
   obtain⟨b',o',e',am,d0,d1⟩:=(h.ext' hx).at' hq
   cases e'
   have ad:ps.take i≠[]:=by
    intro e;have h2:(ps.take i).length=0:=by rw [e];rfl
    rw [List.length_take,f.out]at h2;omega
   have d:minP (ps.take (i+1))=lowP (x,z) (K,Q):=by rw [zab _ _ _ hq,zjT _ _ ad,HV.out]
   obtain⟨C,hC⟩:=gX (lowC (K,Q) (x,z));unfold lowP at d;rw [hC]at d;have aa:=hd9 d;have m:=fun W=>zjP W K Q x z
   rw [hC]at m;have s:=hd9 m;clear hq d ad hC m;have p1:(0:Int)≤(i:Int):=oM
   have p2:(i:Int)<(n:Int):=oM
   by_cases hc:C<0
   ·have aj:decide (C<0)=true:=by simpa using hc
    have Hc:=hd9 hc;clear hc;go_wp2
    go_region_held3 (fun W=>W.cell? ⟨b,o+i*2,J⟩=O (Z Y K)∧W.cell? ⟨b,o+i*2+1,J⟩=O (Z Y Q)∧W.cell? ⟨w.heap.size+1,0,J⟩=O (Z Y x)∧W.cell? ⟨w.heap.size+1,1,J⟩=O (Z Y z)) ((repeat' (with_reducible refine And.intro ?_ ?_))<;>(first|(go_simp;done)|(refine hx1.cellS ?_;go_simp;done))) (((go_at_call 171;(with_reducible refine(s.out _).mono ?_);rintro e w1 ⟨rfl,hx1⟩;obtain⟨⟨ai,ak⟩,ae,af⟩:=cK2 w hx1)))
    all_goals go_wp2
    all_goals
     go_roundg (n-(i+1))
     case measure=>have:=f.out;omega
     case rel =>
      have r:Ext wr w1:=(eR wr).drew.trans hx1;have l:=r.heapS HR.out;have j:=r.heapS HO.out;have d:=aa.out
      first
       | (rw [if_pos Hc.out]at d;exact⟨i+1,by omega,by rw [f.out];omega,by go_num,by rw [f.out],eA,by rw [bS _ _ _ _ dO,bS _ _ _ _ dO];exact l,K,Q,d,zaS j _ _⟩)
       | (rw [if_neg (by have:=Hc.out;omega)]at d;exact⟨i+1,by omega,by rw [f.out];omega,by go_num,by rw [f.out],eA,l,x,z,d,j⟩)
   ·have aj:decide (C<0)=false:=by simpa using hc
    have Hc:=hd9 hc;clear hc;go_wp2
    go_region_held3 (fun W=>W.cell? ⟨b,o+i*2,J⟩=O (Z Y K)∧W.cell? ⟨b,o+i*2+1,J⟩=O (Z Y Q)∧W.cell? ⟨w.heap.size+1,0,J⟩=O (Z Y x)∧W.cell? ⟨w.heap.size+1,1,J⟩=O (Z Y z)) ((repeat' (with_reducible refine And.intro ?_ ?_))<;>(first|(go_simp;done)|(refine hx1.cellS ?_;go_simp;done))) (((go_at_call 171;(with_reducible refine(s.out _).mono ?_);rintro e w1 ⟨rfl,hx1⟩;obtain⟨⟨ai,ak⟩,ae,af⟩:=cK2 w hx1)))
    all_goals go_wp2
    all_goals
     go_roundg (n-(i+1))
     case measure=>have:=f.out;omega
     case rel =>
      have r:Ext wr w1:=(eR wr).drew.trans hx1;have l:=r.heapS HR.out;have j:=r.heapS HO.out;have d:=aa.out
      first
       | (rw [if_pos Hc.out]at d;exact⟨i+1,by omega,by rw [f.out];omega,by go_num,by rw [f.out],eA,by rw [bS _ _ _ _ dO,bS _ _ _ _ dO];exact l,K,Q,d,zaS j _ _⟩)
       | (rw [if_neg (by have:=Hc.out;omega)]at d;exact⟨i+1,by omega,by rw [f.out];omega,by go_num,by rw [f.out],eA,l,x,z,d,j⟩)
  ·obtain rfl:i=n:=oM
   have D:=HV.out;rw [lT (by rw [f.out];omega)]at D;have ag:=hd9 D;clear D;go_wp2;refine bR (v:=M #[Z Y x,Z Y z]) (by simp [results,Tryz.results170,go_sem,r0,r1]) rfl ⟨?_,eA⟩;rw [ag.out]
def placedB (ps:List (Int×Int)):Bool:=!(ps.any farB)&&convexB ps&&(leastP ps==(0,0))&&(minP ps==ps.getD 0 (0,0))
theorem zec {ps:List (Int×Int)} (h:ps.any farB=true):placedB ps=false:=by simp [placedB,h]
theorem zbS {ps:List (Int×Int)} (h:convexB ps=false):placedB ps=false:=by simp [placedB,h]
theorem zl2 {ps:List (Int×Int)} (h:ps.any farB=false):PBd 2000 ps:=by
 intro p e;have d:=(List.any_eq_false.1 h) p e;simp [farB,wthn]at d;unfold Bd;omega
theorem PBd.mono {j k:Int} {ps:List (Int×Int)} (h:PBd j ps) (d:j≤k):PBd k ps:=fun p e=>⟨(h p e).1.mono d,(h p e).2.mono d⟩
theorem zcy {ps:List (Int×Int)} (h:convexB ps=true):3≤ps.length∧ps.length≤12:=by
 unfold convexB at h;rw [Bool.and_eq_true]at h;have:=h.1;simp [wthn]at this;omega
theorem ziq (w:V) (v:X) (ps:List (Int×Int)) (h:IsPts w v ps) :
  Calls Tryz.prog 136 #[v] w fun e w'=>e = .returned (N (placedB ps))∧Ext w w':=by
 obtain⟨a,c,rfl⟩:=h.form;obtain⟨n,hn⟩:=gX ps.length;rw [hn]at h ⊢;have j:=fun W (hW:Ext w W)=>zi4 W (I a n c) ps (h.ext' hW)
 by_cases hf:ps.any farB=true
 ·rw [zec hf]
  rw [hf]at j;have i:=hd9 j;clear j hf;go_enter Tryz.func136,Tryz.ntmps136
  go_wp2_with(((go_at_call 167;(with_reducible refine(i.out _ ?_).mono ?_);exact eA;rintro e w1 ⟨rfl,d⟩)))
  go_ret;exact⟨rfl,eA⟩
 have Q:ps.any farB=false:=by simpa using hf
 have al:=zl2 Q;rw [Q]at j;have i:=hd9 j;have y:=fun W (hW:Ext w W)=>zh5 W (I a n c) ps (h.ext' hW) (al.mono dM)
 by_cases hc:convexB ps=true
 ·have aq:=zcy hc
  have h0:0<ps.length:=oM
  rw [hc]at y;have s:=hd9 y;have an:=fun W (hW:Ext w W)=>zf0 W (I a n c) ps (h.ext' hW) h0
  have ap:=fun W (hW:Ext w W)=>zjU W (I a n c) ps (h.ext' hW) h0
  obtain⟨⟨lx,lz⟩,hl⟩:∃p,leastP ps=p:=⟨_,rfl⟩;obtain⟨⟨x,mz⟩,hm⟩:∃p,minP ps=p:=⟨_,rfl⟩;obtain⟨⟨r,t⟩,hp⟩:∃p,ps[0]?=O p:=⟨ps[0],by simp⟩;rw [hl]at an;rw [hm]at ap
  have ar:placedB ps=((decide (lx=0)&&decide (lz=0))&&(decide (x=r)&&decide (mz=t))):=by
   unfold placedB;rw [Q,hc,hl,hm,gD,hp];rw [Bool.eq_iff_iff];simp [and_assoc]
  rw [ar];have z:=hd9 an;have ai:=hd9 ap;obtain⟨b,o,rfl,hb,c0,c1⟩:=h.at' hp;simp only [Nat.zero_mul,Nat.add_zero]at c0 c1;have aw:(0:Int)<(n:Int):=by rw [hn]at h0;omega
  clear an ap y j hf Q hc hl hm hp ar hn aq al h0
  by_cases ao:lx=0∧lz=0
  ·obtain⟨rfl,rfl⟩:=ao
   have ax:0<n:=oM
   have aj:x=r∧mz=t→Calls Tryz.prog 136 #[I (O ⟨b,o,J⟩) n c] w fun e w'=>e = .returned (N ((decide ((0:Int)=0)&&decide ((0:Int)=0))&&(decide (x=r)&&decide (mz=t))))∧Ext w w':=by
    intro l;have f1:(x==r)=true:=(by simpa using l.1);have f2:(mz==t)=true:=(by simpa using l.2);have g1:(decide (x=r)&&decide (mz=t))=true:=(by simp [l.1,l.2]);rw [g1];clear g1 l;go_enter Tryz.func136,Tryz.ntmps136
    go_wp2_with(first|((go_at_call 167;(with_reducible refine(i.out _ ?_).mono ?_);exact eA;rintro e w1 ⟨rfl,d⟩;obtain⟨ae,ag⟩:=d.cells;(have q:=d.lt hb)))|((go_at_call 168;(with_reducible refine(s.out _ ?_).mono ?_);exact eA;rintro e w2 ⟨rfl,f⟩;obtain⟨af,ah⟩:=f.cells;(have u:=f.lt q))))
    have ad:b<w2.heap.size:=u
    go_region_held3 (fun W=>W.cell? ⟨b,o,J⟩=O (Z Y r)∧W.cell? ⟨b,o+1,J⟩=O (Z Y t)) ((repeat' (with_reducible refine And.intro ?_ ?_))<;>(first|(go_simp;done)|(refine d.cellS ?_;go_simp;done))) (first|((go_at_call 169;(with_reducible refine(z.out _ ?_).mono ?_);exact eA;rintro e w3 ⟨rfl,m⟩;obtain⟨D,aa⟩:=m.cells;(try simp only [qcD,qfD,qdZ]at D aa);(have au:=m.lt ad)))|((go_at_call 170;(with_reducible refine(ai.out _ ?_).mono ?_);exact eA;rintro e w4 ⟨rfl,ac⟩;obtain⟨K,ab⟩:=ac.cells;(try simp only [qcD,qfD,qdZ]at K ab))))
    all_goals go_wp2
    go_ret;exact⟨rfl,eA⟩
   have ak:x=r∧mz≠t→Calls Tryz.prog 136 #[I (O ⟨b,o,J⟩) n c] w fun e w'=>e = .returned (N ((decide ((0:Int)=0)&&decide ((0:Int)=0))&&(decide (x=r)&&decide (mz=t))))∧Ext w w':=by
    intro l;have f1:(x==r)=true:=(by simpa using l.1);have f2:(mz==t)=false:=(by simpa using l.2);have g1:(decide (x=r)&&decide (mz=t))=false:=(by simp [l.2]);rw [g1];clear g1 l;go_enter Tryz.func136,Tryz.ntmps136
    go_wp2_with(first|((go_at_call 167;(with_reducible refine(i.out _ ?_).mono ?_);exact eA;rintro e w1 ⟨rfl,d⟩;obtain⟨ae,ag⟩:=d.cells;(have q:=d.lt hb)))|((go_at_call 168;(with_reducible refine(s.out _ ?_).mono ?_);exact eA;rintro e w2 ⟨rfl,f⟩;obtain⟨af,ah⟩:=f.cells;(have u:=f.lt q))))
    have ad:b<w2.heap.size:=u
    go_region_held3 (fun W=>W.cell? ⟨b,o,J⟩=O (Z Y r)∧W.cell? ⟨b,o+1,J⟩=O (Z Y t)) ((repeat' (with_reducible refine And.intro ?_ ?_))<;>(first|(go_simp;done)|(refine d.cellS ?_;go_simp;done))) (first|((go_at_call 169;(with_reducible refine(z.out _ ?_).mono ?_);exact eA;rintro e w3 ⟨rfl,m⟩;obtain⟨D,aa⟩:=m.cells;(try simp only [qcD,qfD,qdZ]at D aa);(have au:=m.lt ad)))|((go_at_call 170;(with_reducible refine(ai.out _ ?_).mono ?_);exact eA;rintro e w4 ⟨rfl,ac⟩;obtain⟨K,ab⟩:=ac.cells;(try simp only [qcD,qfD,qdZ]at K ab))))
    all_goals go_wp2
    go_ret;exact⟨rfl,eA⟩
   have av:x≠r→Calls Tryz.prog 136 #[I (O ⟨b,o,J⟩) n c] w fun e w'=>e = .returned (N ((decide ((0:Int)=0)&&decide ((0:Int)=0))&&(decide (x=r)&&decide (mz=t))))∧Ext w w':=by
    intro l;have f1:(x==r)=false:=(by simpa using l);have g1:(decide (x=r)&&decide (mz=t))=false:=(by simp [l]);rw [g1];clear g1 l;go_enter Tryz.func136,Tryz.ntmps136
    go_wp2_with(first|((go_at_call 167;(with_reducible refine(i.out _ ?_).mono ?_);exact eA;rintro e w1 ⟨rfl,d⟩;obtain⟨ae,ag⟩:=d.cells;(have q:=d.lt hb)))|((go_at_call 168;(with_reducible refine(s.out _ ?_).mono ?_);exact eA;rintro e w2 ⟨rfl,f⟩;obtain⟨af,ah⟩:=f.cells;(have u:=f.lt q))))
    have ad:b<w2.heap.size:=u
    go_region_held3 (fun W=>W.cell? ⟨b,o,J⟩=O (Z Y r)∧W.cell? ⟨b,o+1,J⟩=O (Z Y t)) ((repeat' (with_reducible refine And.intro ?_ ?_))<;>(first|(go_simp;done)|(refine d.cellS ?_;go_simp;done))) (first|((go_at_call 169;(with_reducible refine(z.out _ ?_).mono ?_);exact eA;rintro e w3 ⟨rfl,m⟩;obtain⟨D,aa⟩:=m.cells;(try simp only [qcD,qfD,qdZ]at D aa);(have au:=m.lt ad)))|((go_at_call 170;(with_reducible refine(ai.out _ ?_).mono ?_);exact eA;rintro e w4 ⟨rfl,ac⟩;obtain⟨K,ab⟩:=ac.cells;(try simp only [qcD,qfD,qdZ]at K ab))))
    all_goals go_wp2
    go_ret;exact⟨rfl,eA⟩
   by_cases e1:x=r
   ·by_cases e2:mz=t
    ·exact aj ⟨e1,e2⟩
    ·exact ak ⟨e1,e2⟩
   ·exact av e1
  ·have hz:(decide (lx=0)&&decide (lz=0))=false:=by
    rw [Bool.and_eq_false_iff]
    by_cases h1:lx=0
    ·right;simp;exact fun h2=>ao ⟨h1,h2⟩
    ·left;simpa using h1
   rw [hz];clear hz;rw [Bool.false_and]
   have aj:lx=0∧lz≠0→Calls Tryz.prog 136 #[I (O ⟨b,o,J⟩) n c] w fun e w'=>e = .returned (N false)∧Ext w w':=by
    intro l;have f1:(lx==0)=true:=(by simpa using l.1);have f2:(lz==0)=false:=(by simpa using l.2);clear l;go_enter Tryz.func136,Tryz.ntmps136
    go_wp2_with(first|((go_at_call 167;(with_reducible refine(i.out _ ?_).mono ?_);exact eA;rintro e w1 ⟨rfl,d⟩;obtain⟨ae,ag⟩:=d.cells;(have q:=d.lt hb)))|((go_at_call 168;(with_reducible refine(s.out _ ?_).mono ?_);exact eA;rintro e w2 ⟨rfl,f⟩;obtain⟨af,ah⟩:=f.cells;(have u:=f.lt q))))
    first|(go_region_with (((go_at_call 169;(with_reducible refine(z.out _ ?_).mono ?_);exact eA;rintro e w3 ⟨rfl,m⟩))))|fail
    all_goals go_wp2
    all_goals go_ret
    all_goals exact⟨rfl,eA⟩
   have ak:lx≠0→Calls Tryz.prog 136 #[I (O ⟨b,o,J⟩) n c] w fun e w'=>e = .returned (N false)∧Ext w w':=by
    intro l;have f1:(lx==0)=false:=(by simpa using l);clear l;go_enter Tryz.func136,Tryz.ntmps136
    go_wp2_with(first|((go_at_call 167;(with_reducible refine(i.out _ ?_).mono ?_);exact eA;rintro e w1 ⟨rfl,d⟩;obtain⟨ae,ag⟩:=d.cells;(have q:=d.lt hb)))|((go_at_call 168;(with_reducible refine(s.out _ ?_).mono ?_);exact eA;rintro e w2 ⟨rfl,f⟩;obtain⟨af,ah⟩:=f.cells;(have u:=f.lt q))))
    first|(go_region_with (((go_at_call 169;(with_reducible refine(z.out _ ?_).mono ?_);exact eA;rintro e w3 ⟨rfl,m⟩))))|fail
    all_goals go_wp2
    all_goals go_ret
    all_goals exact⟨rfl,eA⟩
   by_cases e1:lx=0
   ·exact aj ⟨e1,fun h2=>ao ⟨e1,h2⟩⟩
   ·exact ak e1
 ·have am:convexB ps=false:=by simpa using hc
  rw [zbS am];rw [am]at y;have s:=hd9 y;clear y hc am j hf Q al;go_enter Tryz.func136,Tryz.ntmps136
  go_wp2_with(first|((go_at_call 167;(with_reducible refine(i.out _ ?_).mono ?_);exact eA;rintro e w1 ⟨rfl,d⟩))|((go_at_call 168;(with_reducible refine(s.out _ ?_).mono ?_);exact eA;rintro e w2 ⟨rfl,f⟩)))
  go_ret;exact⟨rfl,eA⟩
theorem zhR (w:V) (x z:Int) (d:Bd 1000000 x) (f:Bd 1000000 z) :
  Calls Tryz.prog 264 #[M #[Z Y x,Z Y z]] w fun e w'=>e = .returned (M #[Z Y x,Z Y z])∧Ext w w':=by
 obtain⟨h,i⟩:=d;obtain⟨j,l⟩:=f;have m:IntKind.i64.wrap (-x) = -x:=iW _ ⟨by omega,by omega⟩;have p:IntKind.i64.wrap (-z) = -z:=iW _ ⟨by omega,by omega⟩;go_enter Tryz.func264,Tryz.ntmps264;go_wp2;exact bR (v:=M #[Z Y x,Z Y z]) (by simp [results,Tryz.results264,go_sem]) rfl ⟨rfl,eA⟩
theorem zhS (w:V) (x z:Int) (d:Bd 1000000 x) (f:Bd 1000000 z) :
  Calls Tryz.prog 265 #[M #[Z Y x,Z Y z]] w fun e w'=>e = .returned (M #[Z Y (-z),Z Y x])∧Ext w w':=by
 obtain⟨h,i⟩:=d;obtain⟨j,l⟩:=f;have m:IntKind.i64.wrap (-x) = -x:=iW _ ⟨by omega,by omega⟩;have p:IntKind.i64.wrap (-z) = -z:=iW _ ⟨by omega,by omega⟩;go_enter Tryz.func265,Tryz.ntmps265;go_wp2;exact bR (v:=M #[Z Y (-z),Z Y x]) (by simp [results,Tryz.results265,go_sem]) rfl ⟨rfl,eA⟩
theorem zhT (w:V) (x z:Int) (d:Bd 1000000 x) (f:Bd 1000000 z) :
  Calls Tryz.prog 266 #[M #[Z Y x,Z Y z]] w fun e w'=>e = .returned (M #[Z Y (-x),Z Y (-z)])∧Ext w w':=by
 obtain⟨h,i⟩:=d;obtain⟨j,l⟩:=f;have m:IntKind.i64.wrap (-x) = -x:=iW _ ⟨by omega,by omega⟩;have p:IntKind.i64.wrap (-z) = -z:=iW _ ⟨by omega,by omega⟩;go_enter Tryz.func266,Tryz.ntmps266;go_wp2;exact bR (v:=M #[Z Y (-x),Z Y (-z)]) (by simp [results,Tryz.results266,go_sem]) rfl ⟨rfl,eA⟩
theorem zhU (w:V) (x z:Int) (d:Bd 1000000 x) (f:Bd 1000000 z) :
  Calls Tryz.prog 267 #[M #[Z Y x,Z Y z]] w fun e w'=>e = .returned (M #[Z Y z,Z Y (-x)])∧Ext w w':=by
 obtain⟨h,i⟩:=d;obtain⟨j,l⟩:=f;have m:IntKind.i64.wrap (-x) = -x:=iW _ ⟨by omega,by omega⟩;have p:IntKind.i64.wrap (-z) = -z:=iW _ ⟨by omega,by omega⟩;go_enter Tryz.func267,Tryz.ntmps267;go_wp2;exact bR (v:=M #[Z Y z,Z Y (-x)]) (by simp [results,Tryz.results267,go_sem]) rfl ⟨rfl,eA⟩
def pfarB (n:Int):Bool:=decide (n < -100000) || decide (100000<n)
theorem zbj (w:V) (n:Int):Calls Tryz.prog 85 #[Z Y n] w fun e w'=>e = .returned (N (pfarB n))∧Ext w w':=by
 unfold pfarB
 by_cases h:n < -100000
 ·have d:decide (n < -100000)=true:=by simpa using h
  go_enter Tryz.func85,Tryz.ntmps85;go_wp2;go_ret;exact⟨by simp [d],eA⟩
 ·have d:decide (n < -100000)=false:=by simpa using h
  go_enter Tryz.func85,Tryz.ntmps85;go_wp2;go_ret;exact⟨by simp [d],eA⟩
theorem zf9 (w:V) (n:Int):Calls Tryz.prog 85 #[Z Y n] w fun e w'=>e = .returned (N (pfarB n))∧w'=w:=by
 unfold pfarB
 by_cases h:n < -100000
 ·have d:decide (n < -100000)=true:=by simpa using h
  go_enter Tryz.func85,Tryz.ntmps85;go_wp2;go_ret;exact⟨by simp [d],rfl⟩
 ·have d:decide (n < -100000)=false:=by simpa using h
  go_enter Tryz.func85,Tryz.ntmps85;go_wp2;go_ret;exact⟨by simp [d],rfl⟩
def OwnC (T:TypeId) (k:Nat) (w:V) (base:Nat) (v:X) (cs:List (List X)):Prop:=(∀c∈cs,c.length=k)∧w.ownsRow base T k v cs.length cs.flatten
theorem zaq {k:Nat}:∀{cs:List (List X)},(∀c∈cs,c.length=k)→cs.flatten.length=cs.length*k
 | [],_=>by simp
 | d::cs,h=>by
  rw [List.flatten_cons,lA,zaq (fun c e=>h c (mC _ e)),h d sM,List.length_cons,Nat.add_mul];omega
theorem zbh {k:Nat}:∀{cs:List (List X)} (m:Nat),(∀c∈cs,c.length=k)→m≤cs.length→cs.flatten.take (m*k)=(cs.take m).flatten
 | _,0,_,_=>by simp
 | [],m+1,_,h=>by simp at h
 | d::cs,m+1,h,hm=>by
  have e:=h d sM
  rw [List.flatten_cons,List.take_append,e,lT (by rw [e,Nat.add_mul];omega),show (m+1)*k-k=m*k by rw [Nat.add_mul];omega,
   zbh m (fun c f=>h c (mC _ f)) (by simpa using hm),List.take_succ_cons,List.flatten_cons]
section
variable {T:TypeId} {k:Nat} {w w':V} {base:Nat} {v:X} {cs ds:List (List X)} {a:Option Addr} {n c g:Nat}
theorem OwnC.rd (h:OwnC T k w base v cs):Rd w T k v cs.length cs.flatten:=Rd.of_own h.2
theorem OwnC.sl {α:Type} {P:V→List X→α→Prop} {xs:List α} (h:OwnC T k w base v cs) (d:cs.length=xs.length) (e:∀(i:Nat) c x,cs[i]?=O c→xs[i]?=O x→P w c x):Sl T k P w v xs:=
 ⟨cs,d,h.1,by rw [←d];exact h.rd,e⟩
theorem OwnC.nil (T:TypeId) (k:Nat) (w:V) (base:Nat):OwnC T k w base (I J 0 0) []:=⟨by simp,World.ownsRow_nil w base T k⟩
theorem OwnC.form (h:OwnC T k w base v cs):∃a c,v=I a cs.length c:=zcQ h.2
theorem OwnC.form3 (h:OwnC T k w base v cs):∃a n c,v=I a n c:=by obtain⟨a,c,h⟩:=zcQ h.2;exact⟨a,_,c,h⟩
theorem OwnC.len (h:OwnC T k w base (I a n c) cs):n=cs.length:=by obtain⟨a,e,d⟩:=zcQ h.2;cases d;rfl
theorem OwnC.keep (h:OwnC T k w base v cs) (j:KeepT T w w'):OwnC T k w' base v cs:=by
 obtain⟨e,l,d⟩:=h;refine⟨e,l,?_⟩
 rcases d with d|⟨g,cap,cur,hv,f,i,r⟩
 ·exact .inl d
 ·exact .inr ⟨g,cap,cur,hv,f,j _ _ _ i,r⟩
theorem OwnC.ext (h:OwnC T k w base v cs) (d:Ext w w'):OwnC T k w' base v cs:=h.keep d.keep
theorem OwnC.grown (h:OwnC T k w base v cs) {row:Option Nat} (e:w.grownBy w' row) (d:v.ownBlock=J∨v.ownBlock≠row):OwnC T k w' base v cs:=⟨h.1,World.ownsRow.kept h.2 e d⟩
theorem OwnC.setOther (h:OwnC T k w base v cs) {p:Addr} (f:v.ownBlock≠O p.block) (u:X):OwnC T k (w.setCell p u) base v cs:=
 h.grown (row:=O p.block) ⟨rfl,rfl,rfl,by simp [World.setCell],fun k _ d=>bS _ _ _ _ (by intro e;exact d (by rw [e]))⟩ (.inr f)
theorem OwnC.mono {b':Nat} (h:OwnC T k w base v cs) (i:b'≤base):OwnC T k w b' v cs:=by
 obtain⟨e,f,d⟩:=h;refine⟨e,f,?_⟩
 rcases d with d|⟨g,cap,cur,hv,j,r⟩
 ·exact .inl d
 ·exact .inr ⟨g,cap,cur,hv,by omega,r⟩
theorem OwnC.blk (h:OwnC T k w base (I a n c) cs) (f:0<cs.length):∃g,a=O ⟨g,0,J⟩∧base≤g∧g<w.heap.size:=by
 have d:=h.len;subst d;obtain⟨g,rfl,e⟩:=zhE h.2 f;exact⟨g,rfl,e,(World.ownsRow.lt h.2 g rfl).2⟩
theorem OwnC.cell (h:OwnC T k w base (I (O ⟨g,0,J⟩) n c) cs) {i j:Nat} {d:List X} {u:X} (e:cs[i]?=O d) (l:d[j]?=O u):w.cell? ⟨g,i*k+j,J⟩=O u:=by
 have q:=h.len;subst q;have m:=(lS.1 e).1;have f:=h.1 d (lM e);have p:j<k:=by rw [←f];exact(lS.1 l).1
 rw [World.ownsRow.cellAt h.2 _ (by
  calc i*k+j<i*k+k:=oM
   _=(i+1)*k:=by rw [Nat.add_mul];omega
   _≤cs.length*k:=Nat.mul_le_mul_right _ m),zbn h.1 e p]
 exact l
theorem OwnC.frozen (h:OwnC T k w base (I (O ⟨g,0,J⟩) n c) cs) (i:Nat):w.frozen? ⟨g,i,J⟩=false:=by
 have d:=h.len;subst d;exact World.ownsRow.frozenAt h.2 i
theorem zdT {k:Nat}:∀{cs:List (List X)} {i j:Nat} {d:List X},(∀c∈cs,c.length=k)→cs[i]?=O d→j<k→∀u,cs.flatten.set (i*k+j) u=(cs.set i (d.set j u)).flatten
 | [],i,j,d,_,h,_,_=>by simp at h
 | e::cs,0,j,d,hk,h,hj,u=>by
  simp at h;subst h;rw [List.flatten_cons,Nat.zero_mul,Nat.zero_add,List.set_append_left _ _ (by rw [hk e sM];exact hj),List.set_cons_zero,List.flatten_cons]
 | e::cs,i+1,j,d,hk,h,hj,u=>by
  have f:=hk e sM
  rw [List.flatten_cons,List.set_append_right _ _ (by rw [f,Nat.add_mul];omega),f,show (i+1)*k+j-k=i*k+j by rw [Nat.add_mul];omega,
   zdT (fun c l=>hk c (mC _ l)) (by simpa using h) hj u,List.set_cons_succ,List.flatten_cons]
theorem OwnC.stored (h:OwnC T k w base (I (O ⟨g,0,J⟩) n c) cs) {i j:Nat} {d:List X} (m:cs[i]?=O d) (q:j<k) (u:X) :
  OwnC T k (w.setCell ⟨g,i*k+j,J⟩ u) base (I (O ⟨g,0,J⟩) n c) (cs.set i (d.set j u)):=by
 have r:=h.len;subst r;have l:=h.1 d (lM m);refine⟨?_,?_⟩
 ·intro e p
  rcases List.mem_or_eq_of_mem_set p with f|f
  ·exact h.1 e f
  ·subst f;simpa using l
 ·have:=(World.ownsRow.stored h.2 (i*k+j) u).1
  rw [zdT h.1 m q u]at this;rw [List.length_set];exact this
theorem OwnC.cut (h:OwnC T k w base (I (O ⟨g,0,J⟩) n c) cs) {m:Nat} (f:m≤cs.length):OwnC T k w base (I (O ⟨g,0,J⟩) m c) (cs.take m):=by
 have r:=h.len;subst r;have q:(cs.take m).length=m:=by rw [List.length_take];omega
 have d:∀c∈cs.take m,c.length=k:=fun c j=>h.1 c (List.mem_of_mem_take j)
 refine⟨d,?_,?_⟩
 ·rw [zaq d]
 ·rcases h.2.2 with ⟨i,_⟩|⟨x,cap,cur,hv,l,p,s,e,t,u⟩
  ·cases i
  ·cases hv
   rw [q];refine .inr ⟨g,c,cur,rfl,l,p,by omega,e,t,?_⟩;rw [←zbh m h.1 f,←u,List.take_take]
   congr 1
   have:m*k≤cs.length*k:=Nat.mul_le_mul_right _ f;omega
end
theorem zfx {P:Program} {T t:TypeId} (ty:TypeId) {k bytes:Nat} {z:X} {w:V} {base:Nat} {v:X} {cs ds:List (List X)} {ad:Addr} {m c:Nat}
  (p:(P.info? T).map (fun i=>(i.zero,i.size,i.bytes))=O (O z,k,bytes)) (aa:z.cells.size=k) (hk:0<k) (D:bytes≤1000) (ht:P.underlying t=O (.slice T)) (d:OwnC T k w base v cs)
  (hm:ds.length=m) (hd:∀c∈ds,c.length=k) (q:∀(j:Nat) u,ds.flatten[j]?=O u→w.cell? (ad.add j)=O u) (h1:∀u∈ds.flatten,u.oneCell'=true) (s:cs.length+m≤100000000000) (f:base≤w.heap.size) :
  ∃v' w',(Builtin.append_ #[t,t] ty #[v,I (O ad) m c]).run P w = .ok v' w'∧OwnC T k w' base v' (cs++ds)∧w.grownBy w' v.ownBlock∧(v'.ownBlock=v.ownBlock∨v'.ownBlock=O w.heap.size):=by
 obtain⟨i,hi,K,Q,W⟩:=info_parts p;subst hm
 have hb:(cs.length+ds.length)*bytes≤140737488355328:=by
  calc (cs.length+ds.length)*bytes≤100000000000*1000:=Nat.mul_le_mul s D
   _≤140737488355328:=dM
 obtain⟨v',w',y,r,l,_,x⟩:=run_append_own_at (P:=P) w base t ty T i z k bytes ht hi K Q W aa hk v cs.length cs.flatten d.2 ad ds.length c ds.flatten (zaq hd)
  q h1 (by unfold maxLen;omega) hb f
 refine⟨v',w',y,⟨?_,?_⟩,l,x⟩
 ·intro e he
  rcases List.mem_append.1 he with h|h
  ·exact d.1 e h
  ·exact hd e h
 ·rw [lA,List.flatten_append];exact r
theorem appC {P:Program} {T t:TypeId} {k bytes:Nat} {z:X} {w:V} {base:Nat} {v:X} {cs:List (List X)} {ops:Array Oper} {rest:List Oper} {o:Oper} {a:Act} {Q:Exit→Act→V→Prop}
  (e:(P.info? T).map (fun i=>(i.zero,i.size,i.bytes))=O (O z,k,bytes)) (D:z.cells.size=k) (hk:0<k) (r:bytes≤1000) (ht:P.underlying t=O (.slice T)) (y:o.guard=J) (s x:Operand)
  (ho:o.op = .call { callee:=.builtin .append,args:=#[s,x],argTypes:=#[t,t] }) (hs:a.eval s=v) (p:OwnC T k w base v cs) {ad:Addr} {m c:Nat} (hx:a.eval x=I (O ad) m c)
  (ds:List (List X)) (hm:ds.length=m) (hd:∀c∈ds,c.length=k) (f:∀(j:Nat) u,ds.flatten[j]?=O u→w.cell? (ad.add j)=O u) (W:∀u∈ds.flatten,u.oneCell'=true) (l:cs.length+m≤100000000000) (d:base≤w.heap.size)
  (h:∀v' w',OwnC T k w' base v' (cs++ds)→w.grownBy w' v.ownBlock→(v'.ownBlock=v.ownBlock∨v'.ownBlock=O w.heap.size)→wpList P ops Q rest (a.put o.dst v') w'):wpList P ops Q (o::rest) a w:=by
 obtain⟨v',w',q,h2,h3,h4⟩:=zfx (P:=P) o.type e D hk r ht p hm hd f W l d (c:=c);refine wpList_plain y fun K hK=>?_
 unfold Oper.wp;simp [execOp,ho,resolve,invoke,builtin,hs,hx,q,Result.andThen];exact hK _ _ (h v' w' h2 h3 h4)
theorem zhM {P:Program} {T t:TypeId} (ty:TypeId) {k bytes:Nat} {z:X} {w:V} {base:Nat} {v sl:X} {cs ds:List (List X)}
  (f:(P.info? T).map (fun i=>(i.zero,i.size,i.bytes))=O (O z,k,bytes)) (aa:z.cells.size=k) (hk:0<k) (y:bytes≤1000) (ht:P.underlying t=O (.slice T)) (l:OwnC T k w base v cs)
  (hd:∀c∈ds,c.length=k) (d:Rd w T k sl ds.length ds.flatten) (h1:∀u∈ds.flatten,u.oneCell'=true) (r:cs.length+ds.length≤100000000000) (m:base≤w.heap.size) :
  ∃v' w',(Builtin.append_ #[t,t] ty #[v,sl]).run P w = .ok v' w'∧OwnC T k w' base v' (cs++ds)∧w.grownBy w' v.ownBlock∧(v'.ownBlock=v.ownBlock∨v'.ownBlock=O w.heap.size):=by
 obtain⟨s,c,rfl⟩:=d.form
 rcases s with _|s
 ·obtain⟨i,hi,ab,W,ac⟩:=info_parts f
  have h0:ds=[]:=by
   by_cases h:0<ds.length
   ·obtain⟨b,o,e,_⟩:=d.open h;cases e
   ·exact List.eq_nil_of_length_eq_zero oM
  subst h0
  have hc:c=0:=by
   obtain⟨_,a,c,e,_,_,x⟩:=d
   cases e
   rcases x with x|⟨b,o,cs,fr,e,_⟩
   ·exact x.2 rfl
   ·cases e
  subst hc;have q:=l.2;subst W;exact⟨v,w,run_append_owned_none (P:=P) (w:=w) base t ty T i i.size ht hi v cs.length cs.flatten q,by simpa using l,⟨rfl,rfl,rfl,nE _,fun _ _ _=>rfl⟩,.inl rfl⟩
 ·have p:∀(j:Nat) u,ds.flatten[j]?=O u→w.cell? (s.add j)=O u:=by
   intro j u D
   have K:0<ds.length:=by
    by_cases h:0<ds.length
    ·exact h
    ·rw [List.eq_nil_of_length_eq_zero (show ds.length=0 by omega)]at D;simp at D
   obtain⟨b',o',e,hb,_,Q⟩:=d.open K
   cases e
   have:=Q j u D;unfold Addr.add
   split
   ·subst j;simpa using this
   ·exact this
  exact zfx ty f aa hk y ht l rfl hd p h1 r m
theorem appS {P:Program} {T t:TypeId} {k bytes:Nat} {z:X} {w:V} {base:Nat} {v sl:X} {cs:List (List X)} {ops:Array Oper} {rest:List Oper} {o:Oper} {a:Act} {Q:Exit→Act→V→Prop}
  (e:(P.info? T).map (fun i=>(i.zero,i.size,i.bytes))=O (O z,k,bytes)) (r:z.cells.size=k) (hk:0<k) (p:bytes≤1000) (ht:P.underlying t=O (.slice T)) (q:o.guard=J) (s x:Operand)
  (ho:o.op = .call { callee:=.builtin .append,args:=#[s,x],argTypes:=#[t,t] }) (hs:a.eval s=v) (j:OwnC T k w base v cs) (hx:a.eval x=sl)
  (ds:List (List X)) (hd:∀c∈ds,c.length=k) (m:Rd w T k sl ds.length ds.flatten) (y:∀u∈ds.flatten,u.oneCell'=true) (f:cs.length+ds.length≤100000000000) (d:base≤w.heap.size)
  (h:∀v' w',OwnC T k w' base v' (cs++ds)→w.grownBy w' v.ownBlock→(v'.ownBlock=v.ownBlock∨v'.ownBlock=O w.heap.size)→wpList P ops Q rest (a.put o.dst v') w'):wpList P ops Q (o::rest) a w:=by
 obtain⟨v',w',l,D,W,h4⟩:=zhM (P:=P) o.type e r hk p ht j hd m y f d;refine wpList_plain q fun K hK=>?_
 unfold Oper.wp;simp [execOp,ho,resolve,invoke,builtin,hs,hx,l,Result.andThen];exact hK _ _ (h v' w' D W h4)
theorem zdR {k:Nat}:∀{cs:List (List X)} (m:Nat),(∀c∈cs,c.length=k)→m≤cs.length→cs.flatten.drop (m*k)=(cs.drop m).flatten
 | _,0,_,_=>by simp
 | [],m+1,_,h=>by simp at h
 | d::cs,m+1,h,hm=>by
  have e:=h d sM
  rw [List.flatten_cons,List.drop_append,e,List.drop_of_length_le (by rw [e,Nat.add_mul];omega),show (m+1)*k-k=m*k by rw [Nat.add_mul];omega,
   zdR m (fun c f=>h c (mC _ f)) (by simpa using hm),List.drop_succ_cons,List.nil_append]
section
variable {α:Type} {T:TypeId} {k:Nat} {P:V→List X→α→Prop} {w w':V} {v:X} {xs:List α} {b o n c:Nat}
theorem Sl.drop (h:Sl T k P w (I (O ⟨b,o,J⟩) n c) xs) (hn:0<xs.length) {m:Nat} (hm:m≤xs.length):Sl T k P w (I (O ⟨b,o+m*k,J⟩) (n-m) (c-m)) (xs.drop m):=by
 have K:=h.len;obtain⟨cs,u,j,⟨y,a,W,e,h5,h6,p⟩,z⟩:=h
 cases e
 refine⟨cs.drop m,by rw [List.length_drop,List.length_drop,u],fun c l=>j c (List.mem_of_mem_drop l),⟨?_,O ⟨b,o+m*k,J⟩,c-m,?_,?_,?_,?_⟩,?_⟩
 ·rw [←zdR m j oM,List.length_drop,y,List.length_drop,Nat.sub_mul]
 ·rw [List.length_drop]
 ·rw [List.length_drop];omega
 ·omega
 ·rcases p with p|⟨Q,o',f,t,e,D,l⟩
  ·omega
  ·cases e
   refine .inr ⟨_,_,f,t,rfl,D,fun i x r=>?_⟩;rw [←zdR m j oM,List.getElem?_drop]at r;have:=l _ _ r
   rwa [←Nat.add_assoc]at this
 ·intro i d x q s
  rw [List.getElem?_drop]at q s;exact z _ _ _ q s
theorem Sl.take (h:Sl T k P w (I (O ⟨b,o,J⟩) n c) xs) (hn:0<xs.length) {m c':Nat} (hm:m≤xs.length) (K:m≤c') (Q:c'≤c):Sl T k P w (I (O ⟨b,o,J⟩) m c') (xs.take m):=by
 have aa:=h.len;obtain⟨cs,y,q,⟨z,a,c9,e,h5,h6,t⟩,D⟩:=h
 cases e
 have f:(xs.take m).length=m:=by rw [List.length_take];omega
 refine⟨cs.take m,by rw [List.length_take,List.length_take,y],fun c r=>q c (List.mem_of_mem_take r),⟨?_,O ⟨b,o,J⟩,c',?_,?_,?_,?_⟩,?_⟩
 ·rw [←zbh m q oM,List.length_take,z,f]
  have:m*k≤xs.length*k:=Nat.mul_le_mul_right _ hm;omega
 ·rw [f]
 ·rw [f];omega
 ·omega
 ·rcases t with t|⟨b',o',p,u,e,W,r⟩
  ·omega
  ·cases e
   refine .inr ⟨_,_,p,u,rfl,W,fun i x l=>?_⟩;rw [←zbh m q oM,List.getElem?_take]at l
   split at l
   ·exact r _ _ l
   ·cases l
 ·intro i d x j s
  rw [List.getElem?_take]at j s
  split at j
  ·rename_i hlt2
   rw [if_pos hlt2]at s;exact D _ _ _ j s
  ·cases j
end
theorem zah {w w':V} {base:Nat} {row:Option Nat} (e:w.grownBy w' row) (d:base≤w.heap.size) (f:∀k,row=O k→base≤k):Below base w w':=(Below.refl _ w).grown e d f
theorem OwnC.lt {T:TypeId} {k:Nat} {w:V} {base:Nat} {v:X} {cs:List (List X)} (h:OwnC T k w base v cs):∀j,v.ownBlock=O j→base≤j∧j<w.heap.size:=World.ownsRow.lt h.2
theorem zcJ {a b:V} {g:Nat} (h:a.grownBy b (O g)) (i:Nat) (u:X):a.grownBy (b.setCell ⟨g,i,J⟩ u) (O g):=
 h.trans ⟨rfl,rfl,rfl,by simp [World.setCell],fun k _ d=>bS _ _ _ _ (by intro e;exact d (by rw [e]))⟩
theorem zch {a b:V} {row:Option Nat} (h:a.grownBy b row) (n:Nat):a.grownBy (b.drewN n) row:=⟨h.os,h.tape,h.output,h.size,h.block⟩
theorem zmN {a b:V} {row:Option Nat} (h:a.grownBy b row):a.grownBy b.drew row:=⟨h.os,h.tape,h.output,h.size,h.block⟩
theorem zoj {a b:V} {row:Option Nat} (h:a.grownBy b row) (o:Obj):a.grownBy (b.alloc o) row:=h.trans (World.grownBy_alloc b o row)
theorem zoB {a b:V} (h:Ext a b) {row:Option Nat}:a.grownBy b row→a.grownBy b row:=id
theorem zaj {a b:V} {row:Option Nat} {k:Nat} {o:Obj} (e:a.grownBy b row) (h:a.heap[k]?=O o) (d:O k≠row):b.heap[k]?=O o:=(e.block k (zaa h) d).trans h
theorem zkq {P:Program} {T t:TypeId} (ty:TypeId) {k:Nat} {w:V} {base g n cap:Nat} {sl:X} {os ds:List (List X)}
  (x:(P.info? T).map (·.size)=O k) (ht:P.underlying t=O (.slice T)) (h:OwnC T k w base (I (O ⟨g,0,J⟩) n cap) os) (hd:∀c∈ds,c.length=k) (l:Rd w T k sl ds.length ds.flatten)
  (f:ds.length=os.length) (h0:0<ds.length) (h1:∀u∈ds.flatten,u.oneCell'=true) :
  ∃w',(Builtin.copy_ #[t,t] ty #[I (O ⟨g,0,J⟩) n cap,sl]).run P w = .ok (goInt n) w'∧OwnC T k w' base (I (O ⟨g,0,J⟩) n cap) ds∧w.grownBy w' (O g):=by
 have hn:=h.len;obtain⟨ad,c,rfl⟩:=l.form;obtain⟨W,o',rfl,hb,_,Q⟩:=l.open h0
 have m:∀(j:Nat) u,ds.flatten[j]?=O u→w.cell? ((⟨W,o',J⟩:Addr).add j)=O u:=by
  intro j u D;have:=Q j u D;unfold Addr.add
  split
  ·subst j;simpa using this
  ·exact this
 subst hn
 rcases h.2.2 with ⟨h2,_⟩|⟨g',aa,cur,hv,hg,hh,r,y,z,ac⟩
 ·cases h2
 ·cases hv
  have d:ds.flatten.length=ds.length*k:=zaq hd;have K:os.length*k≤cur.size:=by rw [z];exact Nat.mul_le_mul_right _ r
  have p:=run_loadCells_list (P:=P) w ⟨W,o',J⟩ ds.flatten m;have s:=run_storeCells_at P g 0 T ds.flatten 0 cur w hh (by rw [d,f];simpa using K) h1;refine⟨w.setRow g (cur.toList.take 0++ds.flatten++cur.toList.drop (0+ds.flatten.length)).toArray,?_,⟨hd,?_,?_⟩,⟨rfl,rfl,rfl,by simp,fun j _ D=>setRow_other w g j _ (fun e=>D (by simp [e]))⟩⟩
  ·cases hq:P.info? T with
   | none=>simp [hq]at x
   | some i =>
    have hi:i.size=k:=by simpa [hq] using x
    have q:Nat.min ds.length os.length=ds.length:=by rw [f];exact Nat.min_self _
    rw [d,f]at p;simp only [List.length_flatten]at s;have ab:((os.length:Nat):Int)=(ds.length:Int):=by rw [f]
    simp [Builtin.copy_,run_underlying ht,Builtin.lenOf,Builtin.firstCells,sizeOf,typeInfo,hq,hi,q,p,s,goInt,f]
  ·exact d
  ·rw [f]
   refine .inr ⟨g,cap,_,rfl,hg,setRow_heap w g cur _ T _ hh,r,y,?_,?_⟩
   ·simp only [List.size_toArray,lA,List.length_take,List.length_drop,Array.length_toList,d,f]
    omega
   ·simp only [List.take_zero,List.nil_append]
    rw [←f,←d,List.take_append,lT (nE _),Nat.sub_self,List.take_zero,List.append_nil]
theorem cpC {P:Program} {T t:TypeId} {k:Nat} {w:V} {base g n cap:Nat} {sl:X} {os:List (List X)} {ops:Array Oper} {rest:List Oper} {o:Oper} {a:Act} {Q:Exit→Act→V→Prop}
  (m:(P.info? T).map (·.size)=O k) (ht:P.underlying t=O (.slice T)) (l:o.guard=J) (d s:Operand)
  (W:o.op = .call { callee:=.builtin .copy,args:=#[d,s],argTypes:=#[t,t] }) (j:a.eval d=I (O ⟨g,0,J⟩) n cap) (hs:a.eval s=sl)
  (e:OwnC T k w base (I (O ⟨g,0,J⟩) n cap) os) (ds:List (List X)) (z:∀c∈ds,c.length=k) (i:Rd w T k sl ds.length ds.flatten)
  (D:ds.length=os.length) (p:0<ds.length) (q:∀u∈ds.flatten,u.oneCell'=true)
  (h:∀w',OwnC T k w' base (I (O ⟨g,0,J⟩) n cap) ds→w.grownBy w' (O g)→wpList P ops Q rest (a.put o.dst (goInt n)) w'):wpList P ops Q (o::rest) a w:=by
 obtain⟨w',f,r,x⟩:=zkq (P:=P) o.type m ht e z i D p q;refine wpList_plain l fun K y=>?_
 unfold Oper.wp;simp [execOp,W,resolve,invoke,builtin,j,hs,f,Result.andThen];exact y _ _ (h w' r x)
theorem mkC {P:Program} {T t:TypeId} {k bytes:Nat} {z:X} {zs:List X} {w:V} {n:Nat} {ops:Array Oper} {rest:List Oper} {o:Oper} {a:Act} {Q:Exit→Act→V→Prop}
  (m:(P.info? T).map (fun i=>(i.zero,i.size,i.bytes))=O (O z,k,bytes)) (af:z.cells=zs.toArray) (d:zs.length=k) (y:bytes≤1000) (ht:P.underlying t=O (.slice T)) (D:o.guard=J) (l c:Operand)
  (ho:o.op = .makeSlice t l c) (L:Int) (ab:a.eval l=Z Y L) (f:a.eval c=Z Y L) (hL:L=(n:Int)) (hn:n≤100000000000)
  (h:∀cs,OwnC T k (w.alloc (.cells cs T)) w.heap.size (I (O ⟨w.heap.size,0,J⟩) n n) (List.replicate n zs)→wpList P ops Q rest (a.put o.dst (I (O ⟨w.heap.size,0,J⟩) n n)) (w.alloc (.cells cs T))):wpList P ops Q (o::rest) a w:=by
 obtain⟨i,hi,ad,u,ae⟩:=info_parts m
 have ag:bytes*n≤281474976710656:=by
  calc bytes*n≤1000*100000000000:=Nat.mul_le_mul y hn
   _≤281474976710656:=dM
 have p:=run_make (P:=P) w t T i z ht hi ad Y Y n n oM oM (by rw [ae];omega) oM;simp only [Int.toNat_natCast]at p;refine wpList_plain D fun K x=>?_
 unfold Oper.wp;subst hL;simp [execOp,ho,ab,f,p,Result.andThen];refine x _ _ (h _ ?_);have s:(List.replicate n zs).flatten.length=n*k:=by rw [zaq (k:=k) (fun c f=>by rw [List.eq_of_mem_replicate f];exact d),List.length_replicate]
 refine⟨fun c f=>by rw [List.eq_of_mem_replicate f];exact d,by rw [s,List.length_replicate],.inr ⟨w.heap.size,n,_,by simp,nE _,aN w _,by simp,by unfold maxLen;omega,by rw [u];simp [madeCells],?_⟩⟩;rw [u,List.length_replicate,af,lT (by rw [Array.length_toList,size_madeCells];exact nE _)]
 apply List.ext_getElem?
 intro j
 by_cases hj:j<n*k
 ·have aa:0<k:=by
   rcases Nat.eq_zero_or_pos k with e|e
   ·subst e;simp at hj
   ·exact e
  obtain⟨q,r,p,hq⟩:∃q r,r<k∧j=q*k+r:=⟨j / k,j % k,Nat.mod_lt _ aa,by rw [Nat.mul_comm];exact(Nat.div_add_mod j k).symm⟩
  have ac:q<n:=by
   rcases Nat.lt_or_ge q n with e|e
   ·exact e
   ·exfalso
    have:n*k≤q*k:=Nat.mul_le_mul_right _ e;omega
  have e2:(List.replicate n zs).flatten[q*k+r]?=zs[r]?:=zbn (k:=k) (fun c f=>by rw [List.eq_of_mem_replicate f];exact d) (by rw [List.getElem?_replicate,if_pos ac]) p;have W:j % k=r:=by rw [hq,Nat.add_comm,Nat.add_mul_mod_self_right,Nat.mod_eq_of_lt p]
  rw [show (List.replicate n zs).flatten[j]?=zs[r]? by rw [hq];exact e2];simp only [madeCells,Array.toList_map,Array.toList_range,lP,List.getElem?_range hj,Option.map_some,List.size_toArray,d,W];rw [gE oM];simp [d,p]
 ·rw [List.getElem?_eq_none (by rw [Array.length_toList,size_madeCells];omega),List.getElem?_eq_none (by rw [s];omega)]
theorem zeu {P:Program} {T t:TypeId} {k bytes:Nat} {z:X} {w:V} {base:Nat} {v:X} {cs:List (List X)} {ops:Array Oper} {o:Oper} {a:Act} {K:Act→V→Prop} {Q:Exit→Act→V→Prop} {E:Prop}
  (e:(P.info? T).map (fun i=>(i.zero,i.size,i.bytes))=O (O z,k,bytes)) (D:z.cells.size=k) (hk:0<k) (r:bytes≤1000) (ht:P.underlying t=O (.slice T)) (y:o.guard=J) (s x:Operand)
  (ho:o.op = .call { callee:=.builtin .append,args:=#[s,x],argTypes:=#[t,t] }) (hs:a.eval s=v) (p:OwnC T k w base v cs) {ad:Addr} {m c:Nat} (hx:a.eval x=I (O ad) m c)
  (ds:List (List X)) (hm:ds.length=m) (hd:∀c∈ds,c.length=k) (f:∀(j:Nat) u,ds.flatten[j]?=O u→w.cell? (ad.add j)=O u) (W:∀u∈ds.flatten,u.oneCell'=true) (l:cs.length+m≤100000000000) (d:base≤w.heap.size)
  (h:∀v' w',OwnC T k w' base v' (cs++ds)→w.grownBy w' v.ownBlock→(v'.ownBlock=v.ownBlock∨v'.ownBlock=O w.heap.size)→K (a.put o.dst v') w') :
  if Region.wanted o (yielded ops a.tmps)=true then Oper.wp P o a w K Q else E:=by
 have hw:Region.wanted o (yielded ops a.tmps)=true:=by simp [Region.wanted,y]
 rw [if_pos hw];obtain⟨v',w',q,h2,h3,h4⟩:=zfx (P:=P) o.type e D hk r ht p hm hd f W l d (c:=c);unfold Oper.wp;simp [execOp,ho,resolve,invoke,builtin,hs,hx,q,Result.andThen];exact h v' w' h2 h3 h4
def pc (p:Int×Int):List X:=[Z Y p.1,Z Y p.2]
theorem zbM:(Tryz.prog.info? 33).map (fun i=>(i.zero,i.size,i.bytes))=O (O (M #[Z Y 0,Z Y 0]),2,16):=kM
theorem zf8 {ps:List (Int×Int)}:∀u∈(ps.map pc).flatten,u.oneCell'=true:=by
 intro u e;obtain⟨d,f,e⟩:=List.mem_flatten.1 e;obtain⟨p,_,rfl⟩:=List.mem_map.1 f;simp [pc]at e
 rcases e with rfl|rfl<;>rfl
theorem zf7 {ps:List (Int×Int)}:∀c∈ps.map pc,c.length=2:=by
 intro c d;obtain⟨p,_,rfl⟩:=List.mem_map.1 d;rfl
theorem zjY (W:V) (x z:Int) (T:TypeId):∀(j:Nat) u,[pc (x,z)].flatten[j]?=O u→(W.alloc (.cells #[Z Y x,Z Y z] T)).cell? ((⟨W.heap.size,0,J⟩:Addr).add j)=O u:=by
 intro j u d
 match j,d with
 | 0,d=>simp [pc]at d;subst d;simp [Addr.add]
 | 1,d=>simp [pc]at d;subst d;simp [Addr.add]
 | j+2,d=>simp [pc]at d
theorem zmh (x z:Int):∀u∈[pc (x,z)].flatten,u.oneCell'=true:=zf8 (ps:=[(x,z)])
theorem znL {a b c:V} {k:Nat} (h:Ext a b) (g:b.grownBy c (O k)) (e:a.heap.size≤k):Ext a c:=
 ⟨g.os.trans h.os,g.tape.trans h.tape,g.output.trans h.output,nT h.size g.size,fun i d=>(g.block i (Nat.lt_of_lt_of_le d h.size) (by simp;omega)).trans (h.block d)⟩
theorem zll {a b c:V} {row:Option Nat} (h:a.grownBy b row) (k:Below a.heap.size b c):a.grownBy c row:=
 ⟨k.os.trans h.os,k.tape.trans h.tape,k.output.trans h.output,nT h.size k.size,fun i e d=>(k.block i e).trans (h.block i e d)⟩
theorem zmO (a:V) (row:Option Nat):a.grownBy a row:=⟨rfl,rfl,rfl,nE _,fun _ _ _=>rfl⟩
theorem zlm {a b:V} {k:Nat} {T T':TypeId} {cs:Array X} {i:Nat×Nat} (g:a.grownBy b (O k)) (h:a.heap[k]?=O (.cells cs T' i)) (j:T'≠T):KeepT T a b:=
 fun x c f d=>(g.block x (zaa d) (fun e=>by cases e;rw [d]at h;cases h;exact j rfl)).trans d
end
end Go.Proofs.YtodpfeaihohpjaaGreatDoor.Cop
