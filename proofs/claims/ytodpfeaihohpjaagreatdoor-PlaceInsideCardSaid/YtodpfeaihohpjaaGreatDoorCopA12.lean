/- Part 13: contracts of what the law calls. -/
import Derived.Test.YtodpfeaihohpjaaGreatDoorCopA09
import Derived.Test.YtodpfeaihohpjaaGreatDoorCopA11
import Derived.Test.YtodpfeaihohpjaaGreatDoorCopA06
import Derived.Shelf.SlSortCmp.WholeK
import Derived.Shelf.SlGeneric
import Derived.Ground.SlsfProg
import Derived.Test.YtodpfeaihohpjaaGreatDoorProg
import Derived.Test.YtodpfeaihohpjaaGreatDoorCopA08
import Derived.Laws.StructEq
set_option maxRecDepth 1000000
set_option maxHeartbeats 16000000
set_option linter.unusedSimpArgs false
set_option linter.unusedVariables false
open Option renaming some→O,none→J
open Go.Value renaming int→V,slice→C
open Go.IntKind renaming i64→I
open Go renaming Value→N,World→G
open Go.Obj renaming cells→H
namespace Go.Proofs.YtodpfeaihohpjaaGreatDoor.Cop
section
open Go.RowKit Go.Shelf
def cornersP (p:Pl):List (Int×Int):=(turnedP p.way p.shape).map fun q=>(q.1+p.ax,q.2+p.az)
theorem zdr {ps:List (Int×Int)} (h:ps≠[]):(settledP ps).length=ps.length:=by
 have:=(zjt h).2;unfold settledP;simp;omega
theorem zcD {way:Int} {ps:List (Int×Int)} (h:ps≠[]):(turnedP way ps).length=ps.length:=by
 unfold turnedP
 split
 ·rw [zdr (by simpa using h)];simp
 ·rw [zdr (by simpa using h)];simp
theorem zen {k:Int} {ps:List (Int×Int)} (h:PBd k ps) (c:ps≠[]):PBd (k+k) (settledP ps):=fun p d=>by
 obtain⟨q,e,rfl⟩:=List.mem_map.1 d;have a:=h.rot (idxN ps) q e;have b:=zfZ h c;exact⟨a.1.sub b.1,a.2.sub b.2⟩
theorem zfc {k way:Int} {ps:List (Int×Int)} (h:PBd k ps) (a:ps≠[]):PBd (k+k) (turnedP way ps):=by
 unfold turnedP
 split
 ·exact zen h.way.rev (by simpa using a)
 ·exact zen h.way (by simpa using a)
theorem zbA {p:Pl} (h:placedOk p=true):stoneB (namedB p.name) p.shape p.depth p.density p.gx p.gz=true∧0≤p.way∧p.way≤7∧Bd 100000 p.ax∧Bd 100000 p.az∧1≤p.skin∧p.skin≤3:=by
 unfold placedOk pfarB wthn at h;simp at h;unfold Bd;refine⟨h.1,?_⟩;omega
theorem zaH {p:Pl} (h:placedOk p=true):PBd 104000 (cornersP p)∧3≤(cornersP p).length∧(cornersP p).length≤12:=by
 obtain⟨g,_,_,i,j,_⟩:=zbA h;obtain⟨b,h12,c,_⟩:=zcf g;have a:p.shape≠[]:=by intro e;rw [e]at b;simp at b
 refine⟨fun q d=>?_,?_,?_⟩
 ·obtain⟨r,f,rfl⟩:=List.mem_map.1 d
  have:=zfc (way:=p.way) c a r f;unfold Bd at *;dsimp only;omega
 ·unfold cornersP;rw [lL,zcD a];exact b
 ·unfold cornersP;rw [lL,zcD a];exact h12
def PlB (W:G) (b:Nat) (p:Pl) (v:N):Prop:=W.heap[b]?=O (H (plc p v) 37 (0,0))
theorem zdO (w:G) (p:Pl) (v:N) (h:IsPts w v p.shape) (ap:placedOk p=true) (hg:Gw w) :
  Calls Tryz.prog 80 #[.agg (plc p v)] w (RetC 33 2 w ((cornersP p).map pc)):=by
 obtain⟨a,c,rfl⟩:=h.form;obtain⟨hB,au,av,am,an,_,_⟩:=zbA ap;obtain⟨h3,h12,ae,_⟩:=zcf hB;obtain⟨nm,ps,d,de,gx,gz,wy,r,s,sk⟩:=p;dsimp only at h hB au av am an h3 h12 ae;have Q:ps≠[]:=by intro e;rw [e]at h3;simp at h3
 have x:=fun W (hW:Ext w W)=>ziN W nm _ ps d de gx gz wy (h.ext' hW) hB au av (hg.ext hW)
 obtain⟨K,ah⟩:=gX (turnedP wy ps);have ac:=zcD (way:=wy) Q;have ag:=zfc (way:=wy) ae Q;have hR:(cornersP ⟨nm,ps,d,de,gx,gz,wy,r,s,sk⟩)=K.map fun q=>(q.1+r,q.2+s):=by unfold cornersP;rw [←ah]
 rw [hR];rw [ah]at x ac ag;obtain⟨g2,ao⟩:=gX (wayP wy (gx,gz));rw [ao]at x;obtain⟨n,hn⟩:=gX ps.length;rw [hn]at h x ac h3 h12 ⊢;obtain⟨RL,ad⟩:=gX ((K.map (fun q=>(q.1+r,q.2+s))).map pc);rw [ad];have aA:=hd9 ad;clear ad;have aB:=hd9 x;have aC:=hd9 ag;have l:=hd9 ac;obtain⟨aJ,aK⟩:=am;obtain⟨aL,aM⟩:=an;clear x ag ac ah ao hn hB ae Q hR ap;unfold plc;dsimp only;go_enter Tryz.func80,Tryz.ntmps80
 go_wp2_with(first|((go_at_call 123;(with_reducible refine(aB.out _ ?_).mono ?_);exact eA;rintro e w1 ⟨v1,rfl,aa,aj⟩;obtain⟨a1,n1,c1,rfl⟩:=aa.form3;obtain rfl:n=n1:=(by have h9:=aa.len;rw [lL,l.out]at h9;exact h9.symm);obtain⟨⟨aE,aF⟩,ay⟩:=cK1 w aj))|((at_make;refine mkC (T:=33) (t:=32) (z:=.agg #[V I 0,V I 0]) (k:=2) (bytes:=16) (zs:=[V I 0,V I 0]) zbM rfl rfl dM Tryz.underlying32 rfl _ _ rfl _ rfl rfl rfl oM ?_;intro cs m;simp only [wZ]at m))|((refine cpC (T:=33) (t:=32) (k:=2) (g:=w1.heap.size+1) (n:=n) (cap:=n) (sl:=C a1 n c1) (os:=List.replicate n [V I 0,V I 0]) kM Tryz.underlying32 rfl _ _ rfl rfl rfl m (K.map pc) zf7 (aa.rd.ext ?_) ?_ ?_ zf8 ?_;exact eA;(simp [l.out]);(simp [l.out];omega);intro w3 o y)))
 obtain⟨P,af⟩:=gX (w1.heap.size+1);rw [af]at o y ⊢;have aw:Ext w w1:=eA;have aG:=aw.size;have P0:=aj.heapS (qhA _ _ _ rfl);have P1:=((eR w1).alloc (H #[.string nm,C a1 n c1,V I d,V I de,V I g2.1,V I g2.2] 35)).heapS P0;have P2:=((eR _).alloc (H cs 33)).heapS P1;have zw:w.heap.size<w1.heap.size:=zaa P0;have P3:=zaj y P2 (fun e=>by cases e;omega);have X3:Ext w w3:=((aw.alloc _).alloc _).thenB (zah y (by simp;omega) (fun k hk=>by cases hk;exact nE _)) (by omega:w.heap.size≤P);have aq:=y.size;simp only [wZ]at aq;have D:=o.mono (b':=P) (by simp [af]);have ar:P≤w3.heap.size:=oM
 have aT:w.heap.size<P:=oM
 have al:=hd9 P3;clear aE aF ay aa aj m o y P0 P1 P2 P3 af aq aG zw
 go_loopg [25] n (fun g aI W=>MpS w P (fun q=>(q.1+r,q.2+s)) K (C (O ⟨P,0,J⟩) n n) g aI W∧W.heap[w.heap.size]?=O (H #[.string nm,C a n c,V I d,V I de,V I gx,V I gz,V I wy,V I r,V I s,V .u8 sk] 37 (0,0)))
 case atStart=>exact⟨⟨0,by omega,rfl,by rw [l.out];rfl,X3,ar,by simpa using D⟩,al.out⟩
 case round =>
  clear X3 ar D al;obtain⟨⟨i,hi,rfl,rfl,hx,aH,b⟩,hP⟩:=hrel;rw [l.out]at hi
  by_cases aS:i<n
  ·obtain⟨⟨qx,qz⟩,hq⟩:∃q,K[i]?=O q:=⟨K[i]'(by rw [l.out];omega),by simp⟩
   have ab:=zl8 (f:=fun q=>(q.1+r,q.2+s)) hq;have d0:=b.cell (j:=0) ab rfl;have d1:=b.cell (j:=1) ab rfl;simp only [Nat.add_zero]at d0;dsimp only at d0 d1;have f0:=b.frozen;obtain⟨⟨b1,b2⟩,b3,b4⟩:=aC.out (qx,qz) (lM hq);have aO:(-4000:Int)≤qx:=by simpa using b1
   have aP:qx≤4000:=by simpa using b2
   have aQ:(-4000:Int)≤qz:=by simpa using b3
   have aR:qz≤4000:=by simpa using b4
   have p7:=qcB hP (i:=7) (u:=V I r) rfl;have p8:=qcB hP (i:=8) (u:=V I s) rfl;have ai:=fun(W:G) (h:OwnC 33 2 W P (C (O ⟨P,0,J⟩) n n) (((K.take i).map (fun q=>(q.1+r,q.2+s))++K.drop i).map pc))=>h.pair ab (V I (qx+r)) (V I (qz+s))
   rw [zl9 (f:=fun q=>(q.1+r,q.2+s)) hq rfl _ rfl]at ai;have aD:=hd9 ai;have ak:=hd9 b;have HP:=hd9 hP;have zg:=(b.lt P rfl).2;have Q:¬P=w.heap.size:=oM
   have p1:(0:Int)≤(i:Int):=oM
   have p2:(i:Int)<(n:Int):=oM
   clear ai ab hq b hP b1 b2 b3 b4;go_wp2
   go_region_with fail
   all_goals go_wp2
   all_goals go_region_with fail
   all_goals go_wp2
   all_goals
    go_roundg (n-(i+1))
    case measure=>have:=l.out;omega
    case rel =>
     refine⟨⟨i+1,by have:=l.out;omega,by go_num,by rw [l.out],eA,by simp only [qcZ,qdZ];exact aH,?_⟩,?_⟩
     ·exact aD.out _ ak.out
     ·show ((wr.setCell _ _).setCell _ _).heap[_]?=_
      rw [bS _ _ _ _ dO,bS _ _ _ _ dO];exact HP.out
  ·obtain rfl:i=n:=oM
   have e:((K.take i).map (fun q=>(q.1+r,q.2+s))++K.drop i)=K.map (fun q=>(q.1+r,q.2+s)):=by
    rw [lT (by rw [l.out];exact nE _),List.drop_of_length_le (by rw [l.out];exact nE _),List.append_nil]
   rw [e,aA.out]at b;go_wp2;go_ret;exact⟨_,rfl,b.mono oM,hx⟩
def EdgC (cs:List (Int×Int)) (u v:Int×Int):Prop:=(∃A B,cs=A++u::v::B)∨(∃M,cs=v::M++[u])
structure Cvx (cs:List (Int×Int)):Prop where
 nd:cs.Nodup
 three:3≤cs.length
 left:∀u v,EdgC cs u v→∀c∈cs,c≠u→c≠v→0<trn u v c
theorem EdgC.mem {cs:List (Int×Int)} {u v:Int×Int} (h:EdgC cs u v):u∈cs∧v∈cs:=by
 rcases h with ⟨A,B,rfl⟩|⟨M,rfl⟩<;>simp
theorem EdgC.rot {P Q:List (Int×Int)} {u v:Int×Int} (h:EdgC (Q++P) u v) (k:2≤(P++Q).length):EdgC (P++Q) u v:=by
 rcases h with ⟨A,B,h⟩|⟨M,h⟩
 ·rcases List.append_eq_append_iff.1 h with ⟨X,b,a⟩|⟨X,b,a⟩
  ·
   subst b;exact .inl ⟨X,B++Q,by rw [a];simp⟩
  ·
   cases X with
   | nil =>
    simp at b a;subst b;exact .inl ⟨[],B++Q,by rw [←a];simp⟩
   | cons x X =>
    simp at a;obtain⟨rfl,a⟩:=a
    cases X with
    | nil =>
     simp at a;subst b a;exact .inr ⟨B++A,by simp⟩
    | cons y X =>
     simp at a;obtain⟨rfl,rfl⟩:=a;subst b;exact .inl ⟨P++A,X,by simp⟩
 ·
  cases P with
  | nil=>simp at h;exact .inr ⟨M,by simpa using h⟩
  | cons p P =>
   cases Q with
   | nil=>simp at h;exact .inr ⟨M,by simpa using h⟩
   | cons q Q =>
    have i:q=v:=by simp at h;exact h.1
    have d:=congrArg List.getLast? h;rw [List.getLast?_append,List.getLast?_append]at d
    have g:(p::P).getLast?=O u:=by
     cases hh:(p::P).getLast? with
     | none=>simp at hh
     | some z=>rw [hh]at d;simpa using d
    obtain⟨c,f⟩:∃c,p::P=c++[u]:=⟨(p::P).dropLast,by
     have e:=List.getLast?_eq_some_iff.1 g;obtain⟨l,j⟩:=e;rw [j];simp⟩
    rw [f];subst i;exact .inl ⟨c,Q,by simp⟩
theorem EdgC.rev {cs:List (Int×Int)} {u v:Int×Int} (h:EdgC cs.reverse u v):EdgC cs v u:=by
 rcases h with ⟨A,B,h⟩|⟨M,h⟩
 ·refine .inl ⟨B.reverse,A.reverse,?_⟩
  rw [←List.reverse_reverse cs,h];simp
 ·refine .inr ⟨M.reverse,?_⟩
  rw [←List.reverse_reverse cs,h];simp
theorem EdgC.map {cs:List (Int×Int)} {f:Int×Int→Int×Int} {u v:Int×Int} (h:EdgC (cs.map f) u v):∃u' v',u=f u'∧v=f v'∧EdgC cs u' v':=by
 rcases h with ⟨A,B,h⟩|⟨M,h⟩
 ·obtain⟨i,X,e,n,c⟩:=List.map_eq_append_iff.1 h
  obtain⟨u',m,a,g,d⟩:=List.map_eq_cons_iff.1 c;obtain⟨v',B',b,hv,o⟩:=List.map_eq_cons_iff.1 d;exact⟨u',v',g.symm,hv.symm,.inl ⟨i,B',by rw [e,a,b]⟩⟩
 ·rw [List.cons_append]at h
  obtain⟨v',X,e,hv,c⟩:=List.map_eq_cons_iff.1 h;obtain⟨j,Y,a,q,k⟩:=List.map_eq_append_iff.1 c;obtain⟨u',Z,b,g,l⟩:=List.map_eq_cons_iff.1 k;have:Z=[]:=List.map_eq_nil_iff.1 l;subst this;exact⟨u',v',g.symm,hv.symm,.inr ⟨j,by rw [e,a,b];simp⟩⟩
theorem Cvx.rot {P Q:List (Int×Int)} (h:Cvx (P++Q)):Cvx (Q++P):=by
 have e:∀x,x∈Q++P→x∈P++Q:=fun x a=>by
  rcases List.mem_append.1 a with a|a
  ·exact List.mem_append.2 (.inr a)
  ·exact List.mem_append.2 (.inl a)
 have g:=h.three;refine⟨(List.perm_append_comm.nodup_iff).1 h.nd,by rw [lA]at *;omega,fun u v d c b f hv=>h.left u v (d.rot oM) c (e c b) f hv⟩
theorem Cvx.map {cs:List (Int×Int)} (h:Cvx cs) (f:Int×Int→Int×Int) (m:∀u v c,trn (f u) (f v) (f c)=trn u v c) (hi:∀x y,f x=f y→x=y):Cvx (cs.map f):=by
 refine⟨?_,by rw [lL];exact h.three,fun u v l c k n hv=>?_⟩
 ·exact List.Pairwise.map f (fun a b d e=>d (hi a b e)) h.nd
 ·obtain⟨o,q,rfl,rfl,i⟩:=l.map
  obtain⟨j,g,rfl⟩:=List.mem_map.1 k;rw [m];exact h.left o q i j g (fun e=>n (by rw [e])) (fun e=>hv (by rw [e]))
theorem Cvx.flip {cs:List (Int×Int)} (h:Cvx cs) (f:Int×Int→Int×Int) (m:∀u v c,trn (f u) (f v) (f c)=trn v u c) (hi:∀x y,f x=f y→x=y):Cvx (cs.map f).reverse:=by
 refine⟨?_,by rw [List.length_reverse,lL];exact h.three,fun u v l c k n hv=>?_⟩
 ·exact(List.reverse_perm _).nodup_iff.2 (List.Pairwise.map f (fun a b d e=>d (hi a b e)) h.nd)
 ·obtain⟨q,o,rfl,rfl,i⟩:=(EdgC.rev l).map
  obtain⟨j,g,rfl⟩:=List.mem_map.1 (List.mem_reverse.1 k);rw [m];exact h.left q o i j g (fun e=>hv (by rw [e])) (fun e=>n (by rw [e]))
theorem zfe {ps:List (Int×Int)} (i:Int):atc ps (i+ps.length)=atc ps i:=by
 unfold atc;rw [Int.add_emod_right]
theorem zno (u v c:Int×Int):trn u v c=trn c u v:=by
 unfold trn
 grind
theorem zi7 {ps:List (Int×Int)} (h:convexB ps=true) {i:Nat} (hi:i<ps.length):0<trn (atc ps ((i:Int)-1)) (atc ps i) (atc ps ((i:Int)+1))∧∀k:Nat,2≤k→k<ps.length-1→0<trn (atc ps i) (atc ps ((i:Int)+1)) (atc ps ((i:Int)+k)):=by
 unfold convexB at h;simp only [Bool.and_eq_true,List.all_eq_true,List.mem_range]at h;have a:=h.2 i hi;unfold cvxR at a;simp only [Bool.and_eq_true,List.all_eq_true,List.mem_range,Bool.or_eq_true,decide_eq_true_eq]at a;refine⟨by simpa [cvx1] using a.1,fun k d b=>?_⟩
 rcases a.2 k b with c|c
 ·omega
 ·simpa [cvx2] using c
theorem zgg {ps:List (Int×Int)} (h:convexB ps=true) {i j:Nat} (hi:i<ps.length) (b:j<ps.length) (d:i≠j) :
  ps[j]=atc ps ((i:Int)+1)∨ps[j]=atc ps ((i:Int)-1)∨0<trn (atc ps i) (atc ps ((i:Int)+1)) ps[j]:=by
 have a:ps[j]=atc ps (j:Int):=by
  have:=zdF b;rw [gE b]at this;exact Option.some.inj this
 obtain⟨k,f,g,e⟩:∃k:Nat,1≤k∧k≤ps.length-1∧atc ps ((i:Int)+k)=atc ps (j:Int):=by
  by_cases l:i<j
  ·exact⟨j-i,by omega,by omega,by congr 1;omega⟩
  ·refine⟨j+ps.length-i,by omega,by omega,?_⟩
   rw [show (i:Int)+((j+ps.length-i:Nat):Int)=(j:Int)+ps.length by omega];exact zfe _
 rw [a,←e]
 by_cases c:k=1
 ·subst c;exact .inl rfl
 ·by_cases m:k=ps.length-1
  ·right;left
   rw [show (i:Int)+(k:Int)=((i:Int)-1)+ps.length by omega];exact zfe _
  ·right;right
   exact(zi7 h hi).2 k oM oM
theorem zh6 {ps:List (Int×Int)} (h:convexB ps=true):Cvx ps:=by
 have l:3≤ps.length:=by
  unfold convexB wthn at h;simp only [Bool.and_eq_true,decide_eq_true_eq]at h;omega
 have a:∀i:Nat,(hi:i<ps.length)→ps[i]=atc ps (i:Int):=fun i hi=>by
  have:=zdF hi;rw [gE hi]at this;exact Option.some.inj this
 refine⟨?_,l,fun u v n c m o hv=>?_⟩
 ·rw [List.nodup_iff_pairwise_ne,List.pairwise_iff_getElem]
  intro i j hi k f e;have b:=(zi7 h hi).1
  rcases zgg h hi k oM with d|d|d
  ·rw [←d,←e,a i hi]at b
   unfold trn at b;simp at b
  ·rw [←d,←e,a i hi]at b
   unfold trn at b;simp at b
  ·rw [←e,a i hi]at d
   have:trn (atc ps (i:Int)) (atc ps ((i:Int)+1)) (atc ps (i:Int))=0:=by unfold trn;grind
   omega
 ·obtain⟨i,hi,rfl,rfl⟩:∃i:Nat,i<ps.length∧u=atc ps (i:Int)∧v=atc ps ((i:Int)+1):=by
   rcases n with ⟨A,B,e⟩|⟨M,e⟩
   ·have g:A.length<ps.length:=by rw [e];simp
    have r:A.length+1<ps.length:=by rw [e];simp
    refine⟨A.length,g,?_,?_⟩
    ·rw [←a _ g];simp [e]
    ·have:=a _ r
     rw [show ((A.length+1:Nat):Int)=(A.length:Int)+1 by omega]at this;rw [←this];simp [e]
   ·have q:0<ps.length:=oM
    have g:M.length+1<ps.length:=by rw [e];simp
    have s:ps.length=M.length+2:=by rw [e];simp
    refine⟨M.length+1,g,?_,?_⟩
    ·rw [←a _ g];simp [e]
    ·rw [show ((M.length+1:Nat):Int)+1=0+ps.length by omega,zfe]
     have:=a 0 q;rw [show ((0:Nat):Int)=0 from rfl]at this;rw [←this];simp [e]
  obtain⟨j,k,rfl⟩:=List.mem_iff_getElem.1 m;have f:i≠j:=by rintro rfl;exact o (a i hi)
  rcases zgg h hi k f with d|d|d
  ·exact absurd d hv
  ·rw [d,zno]
   exact(zi7 h hi).1
  ·exact d
theorem zgU {ps:List (Int×Int)} (h:Cvx ps):Cvx (settledP ps):=by
 unfold settledP;refine Cvx.map ?_ _ ?_ ?_
 ·have:=Cvx.rot (P:=ps.take (idxN ps)) (Q:=ps.drop (idxN ps)) (by rw [List.take_append_drop];exact h)
  exact this
 ·intro u v c
  unfold trn;dsimp only
  grind
 ·intro x y e
  simp only [Prod.mk.injEq]at e;exact Prod.ext oM oM
theorem zhW (way:Int) (u v c:Int×Int):trn (wayP way u) (wayP way v) (wayP way c)=if 3<way then trn v u c else trn u v c:=by
 unfold wayP trn;dsimp only
 split<;>(split<;>first|grind|(split<;>first|grind|(split<;>grind)))
theorem zhV (way:Int) (x y:Int×Int) (h:wayP way x=wayP way y):x=y:=by
 unfold wayP at h;dsimp only at h;obtain⟨a,b⟩:=x;obtain⟨c,d⟩:=y
 split at h<;>(split at h<;>first|(simp only [Prod.mk.injEq]at h ⊢;omega)|(split at h<;>first|(simp only [Prod.mk.injEq]at h ⊢;omega)|(split at h<;>(simp only [Prod.mk.injEq]at h ⊢;omega))))
theorem ziO {way:Int} {ps:List (Int×Int)} (h:Cvx ps):Cvx (turnedP way ps):=by
 unfold turnedP;refine zgU ?_
 by_cases a:3<way
 ·rw [if_pos a]
  exact h.flip _ (fun u v c=>by rw [zhW,if_pos a]) (zhV way)
 ·rw [if_neg a]
  exact h.map _ (fun u v c=>by rw [zhW,if_neg a]) (zhV way)
theorem zaQ {p:Pl} (h:placedOk p=true):Cvx (cornersP p):=by
 have a:convexB p.shape=true:=by
  cases hcc:convexB p.shape with
  | true=>rfl
  | false =>
   unfold placedOk stoneB at h;rw [zbS hcc]at h;simp at h
 unfold cornersP;refine(ziO (zh6 a)).map _ ?_ ?_
 ·intro u v c
  unfold trn;dsimp only
  grind
 ·intro x y e
  simp only [Prod.mk.injEq]at e;exact Prod.ext oM oM
end
section
open Go.RowKit Go.Shelf Go.Sort
theorem zeS {α:Type} [Inhabited α] (enc:α→List N) {k:Nat} (hk:∀x,(enc x).length=k) (d:Array α):(flatK enc k d).toList=(d.toList.map enc).flatten:=by
 have a:∀c∈d.toList.map enc,c.length=k:=fun c m=>by obtain⟨x,_,rfl⟩:=List.mem_map.1 m;exact hk x
 apply List.ext_getElem?
 intro t
 by_cases f:t<d.size*k
 ·have b:0<k:=by
   rcases Nat.eq_zero_or_pos k with h|h
   ·subst h;simp at f
   ·exact h
  have l:t / k<d.size:=by rw [Nat.div_lt_iff_lt_mul b];exact f
  have g:t % k<k:=Nat.mod_lt _ b
  have e:(d.toList.map enc)[t / k]?=O (enc d[t / k]!):=by
   rw [lP,Array.getElem?_toList,Array.getElem?_eq_getElem l,Option.map_some,getElem!_pos d _ l]
  have i:=zbn (j:=t % k) a e g;rw [show t / k*k+t % k=t by rw [Nat.mul_comm];exact Nat.div_add_mod t k]at i;rw [i,Array.getElem?_toList,Array.getElem?_eq_getElem (by simpa using f)];rw [←getElem!_pos (flatK enc k d) t (by simpa using f),get_flatK enc k d t f,gE (by rw [hk];exact g),getElem!_pos _ _ (by rw [hk];exact g)]
 ·rw [List.getElem?_eq_none (by simp;omega),List.getElem?_eq_none (by rw [zaq a];simp;omega)]
theorem znm {α:Type} [Inhabited α] {enc:α→List N} {k:Nat} {w:G} {g m:Nat} {os:Array Obj} {cur:Array N} {e:TypeId} {fr:Nat×Nat} (d:Array α) (hb:w.heap[g]?=O (H cur e fr)) :
  (sortWorldK enc k w g 0 m d os).heap[g]?=O (H (putCells id 0 (flatK enc k d) cur) e fr):=by
 have a:g<w.heap.size:=(Array.getElem?_eq_some_iff.1 hb).1;unfold sortWorldK putRowK;rw [heap_grow_old _ _ (by simpa using a)];simp [putRow,mapBlock,Sort.ahead,Array.getElem?_modify,hb,onCells]
theorem zdB {α:Type} [Inhabited α] {enc:α→List N} {k:Nat} {w:G} {g m:Nat} {os:Array Obj} (d:Array α):w.grownBy (sortWorldK enc k w g 0 m d os) (O g):=by
 unfold sortWorldK putRowK;refine⟨rfl,rfl,rfl,by simp,fun j b a=>?_⟩;rw [heap_grow_old _ _ (by simpa using b)];have:g≠j:=fun e=>a (by rw [e])
 simp [putRow,mapBlock,Sort.ahead,Array.getElem?_modify,this]
theorem ziC (cur F:Array N) (h:F.size≤cur.size):(putCells id 0 F cur).toList.take F.size=F.toList:=by
 apply List.ext_getElem?
 intro j
 by_cases a:j<F.size
 ·rw [List.getElem?_take_of_lt a,Array.getElem?_toList]
  simp [putCells,a,show j<cur.size by omega]
 ·rw [List.getElem?_take_eq_none oM,List.getElem?_eq_none (by simp;omega)]
theorem zes {α:Type} [Inhabited α] {enc:α→List N} {T:TypeId} {k:Nat} {w:G} {base g n cap m:Nat} {os:Array Obj} (hk:∀x,(enc x).length=k) {d d':Array α}
  (h:OwnC T k w base (C (O ⟨g,0,J⟩) n cap) (d.toList.map enc)) (hs:d'.size=d.size):OwnC T k (sortWorldK enc k w g 0 m d' os) base (C (O ⟨g,0,J⟩) n cap) (d'.toList.map enc):=by
 have e:∀c∈d'.toList.map enc,c.length=k:=fun c q=>by obtain⟨x,_,rfl⟩:=List.mem_map.1 q;exact hk x
 have t:=h.len;have a:(d'.toList.map enc).length=(d.toList.map enc).length:=by simp [hs]
 subst t;refine⟨e,zaq e,?_⟩
 rcases h.2.2 with ⟨o,_⟩|⟨y,j,cur,hv,r,s,f,i,b,u⟩
 ·cases o
 ·cases hv
  have l:(flatK enc k d').size=(d'.toList.map enc).length*k:=sM
  refine .inr ⟨g,cap,_,by rw [a],r,znm d' s,by rw [a];exact f,i,by simp [putCells,b],?_⟩;rw [←zeS enc hk d',←l,ziC _ _ (by rw [l,a,b];exact Nat.mul_le_mul_right _ f)]
theorem zeT {α:Type} [Inhabited α] {enc:α→List N} {T:TypeId} {k:Nat} {w:G} {base g n cap:Nat} (hk:∀x,(enc x).length=k) {d:Array α}
  (h:OwnC T k w base (C (O ⟨g,0,J⟩) n cap) (d.toList.map enc)):HoldsK enc k w g 0 d:=by
 intro t a;rw [size_flatK]at a;have c:=h.len;have b:(d.toList.map enc).length=d.size:=sM
 subst c;refine⟨?_,by rw [Nat.zero_add];exact h.frozen t⟩;rw [Nat.zero_add,World.ownsRow.cellAt h.2 t (by rw [b];exact a),←zeS enc hk d,Array.getElem?_toList,Array.getElem?_eq_getElem (by rw [size_flatK];exact a),getElem!_pos _ _ (by rw [size_flatK];exact a)];rfl
end
end Go.Proofs.YtodpfeaihohpjaaGreatDoor.Cop
namespace Go.Proofs
section
open Go.Shelf
def Tryz.pdqPoint_ren:Go.Shelf.Ren:=⟨fun|14=>137|20=>172|21=>173|22=>174|23=>175|24=>176|25=>177|26=>178|27=>179|46=>215|47=>192|48=>193|49=>216|50=>217|15=>122|57=>232|28=>154|29=>155|n=>n,fun|24=>33|22=>32|3=>3|25=>166|4=>4|0=>0|46=>214|45=>213|50=>218|66=>249|39=>191|55=>172|70=>252|76=>284|77=>285|53=>221|5=>5|9=>9|n=>n,fun|n=>n⟩
theorem Tryz.pdqPoint:Go.Proofs.SlLaysF0.n14 Tryz.prog Tryz.pdqPoint_ren:={
 mixed:=by kernel_rfl
 f14:=⟨Tryz.f137.name,by decide,Tryz.func137.trans (congrArg some (by kernel_rfl))⟩
 f15:=Tryz.func122.trans (congrArg some (by kernel_rfl))
 f20:=⟨Tryz.f172.name,by decide,Tryz.func172.trans (congrArg some (by kernel_rfl))⟩
 f21:=⟨Tryz.f173.name,by decide,Tryz.func173.trans (congrArg some (by kernel_rfl))⟩
 f22:=⟨Tryz.f174.name,by decide,Tryz.func174.trans (congrArg some (by kernel_rfl))⟩
 f23:=⟨Tryz.f175.name,by decide,Tryz.func175.trans (congrArg some (by kernel_rfl))⟩
 f24:=⟨Tryz.f176.name,by decide,Tryz.func176.trans (congrArg some (by kernel_rfl))⟩
 f25:=⟨Tryz.f177.name,by decide,Tryz.func177.trans (congrArg some (by kernel_rfl))⟩
 f26:=⟨Tryz.f178.name,by decide,Tryz.func178.trans (congrArg some (by kernel_rfl))⟩
 f27:=⟨Tryz.f179.name,by decide,Tryz.func179.trans (congrArg some (by kernel_rfl))⟩
 f28:=Tryz.func154.trans (congrArg some (by kernel_rfl))
 f29:=Tryz.func155.trans (congrArg some (by kernel_rfl))
 f46:=⟨Tryz.f215.name,by decide,Tryz.func215.trans (congrArg some (by kernel_rfl))⟩
 f47:=Tryz.func192.trans (congrArg some (by kernel_rfl))
 f48:=Tryz.func193.trans (congrArg some (by kernel_rfl))
 f49:=⟨Tryz.f216.name,by decide,Tryz.func216.trans (congrArg some (by kernel_rfl))⟩
 f50:=⟨Tryz.f217.name,by decide,Tryz.func217.trans (congrArg some (by kernel_rfl))⟩
 f57:=⟨Tryz.f232.name,by decide,Tryz.func232.trans (congrArg some (by kernel_rfl))⟩
 t0:=Tryz.underlying0
 a0:=Tryz.isAgg0
 z0:=Tryz.sizeOf0
 v0:=Tryz.zeroValue0
 t3:=Tryz.underlying3
 a3:=Tryz.isAgg3
 z3:=Tryz.sizeOf3
 v3:=Tryz.zeroValue3
 t4:=Tryz.underlying4
 a4:=Tryz.isAgg4
 z4:=Tryz.sizeOf4
 v4:=Tryz.zeroValue4
 t5:=Tryz.underlying5
 a5:=Tryz.isAgg5
 z5:=Tryz.sizeOf5
 v5:=Tryz.zeroValue5
 t9:=Tryz.underlying9
 a9:=Tryz.isAgg9
 z9:=Tryz.sizeOf9
 v9:=Tryz.zeroValue9
 t22:=Tryz.underlying32
 a22:=Tryz.isAgg32
 z22:=Tryz.sizeOf32
 v22:=Tryz.zeroValue32
 t25:=Tryz.underlying166
 a25:=Tryz.isAgg166
 z25:=Tryz.sizeOf166
 v25:=Tryz.zeroValue166
 t39:=Tryz.underlying191
 a39:=Tryz.isAgg191
 z39:=Tryz.sizeOf191
 v39:=Tryz.zeroValue191
 t45:=Tryz.underlying213
 a45:=Tryz.isAgg213
 z45:=Tryz.sizeOf213
 v45:=Tryz.zeroValue213
 t46:=Tryz.underlying214
 a46:=Tryz.isAgg214
 z46:=Tryz.sizeOf214
 v46:=Tryz.zeroValue214
 t50:=Tryz.underlying218
 a50:=Tryz.isAgg218
 z50:=Tryz.sizeOf218
 v50:=Tryz.zeroValue218
 t53:=Tryz.underlying221
 a53:=Tryz.isAgg221
 z53:=Tryz.sizeOf221
 v53:=Tryz.zeroValue221
 t55:=Tryz.underlying172
 a55:=Tryz.isAgg172
 z55:=Tryz.sizeOf172
 v55:=Tryz.zeroValue172
 t66:=Tryz.underlying249
 a66:=Tryz.isAgg249
 z66:=Tryz.sizeOf249
 v66:=Tryz.zeroValue249
 t70:=Tryz.underlying252
 a70:=Tryz.isAgg252
 z70:=Tryz.sizeOf252
 v70:=Tryz.zeroValue252
 t76:=Tryz.underlying284
 a76:=Tryz.isAgg284
 z76:=Tryz.sizeOf284
 v76:=Tryz.zeroValue284
 t77:=Tryz.underlying285
 a77:=Tryz.isAgg285
 z77:=Tryz.sizeOf285
 v77:=Tryz.zeroValue285 }
def Tryz.sortRat_ren:Go.Shelf.Ren:=⟨fun|6=>74|15=>122|14=>121|28=>154|29=>155|20=>146|21=>147|22=>148|23=>149|24=>150|25=>151|26=>152|27=>153|46=>191|47=>192|48=>193|49=>194|50=>195|57=>223|n=>n,fun|22=>139|24=>65|25=>147|3=>3|39=>191|0=>0|53=>221|55=>172|4=>4|46=>214|45=>213|50=>218|5=>5|9=>9|66=>249|70=>252|76=>284|77=>285|n=>n,fun|n=>n⟩
theorem Tryz.sortRat:Go.Proofs.SlLaysF0.n6 Tryz.prog Tryz.sortRat_ren:={
 mixed:=by kernel_rfl
 f6:=⟨Tryz.f74.name,by decide,Tryz.func74.trans (congrArg some (by kernel_rfl))⟩
 f14:=⟨Tryz.f121.name,by decide,Tryz.func121.trans (congrArg some (by kernel_rfl))⟩
 f15:=Tryz.func122.trans (congrArg some (by kernel_rfl))
 f20:=⟨Tryz.f146.name,by decide,Tryz.func146.trans (congrArg some (by kernel_rfl))⟩
 f21:=⟨Tryz.f147.name,by decide,Tryz.func147.trans (congrArg some (by kernel_rfl))⟩
 f22:=⟨Tryz.f148.name,by decide,Tryz.func148.trans (congrArg some (by kernel_rfl))⟩
 f23:=⟨Tryz.f149.name,by decide,Tryz.func149.trans (congrArg some (by kernel_rfl))⟩
 f24:=⟨Tryz.f150.name,by decide,Tryz.func150.trans (congrArg some (by kernel_rfl))⟩
 f25:=⟨Tryz.f151.name,by decide,Tryz.func151.trans (congrArg some (by kernel_rfl))⟩
 f26:=⟨Tryz.f152.name,by decide,Tryz.func152.trans (congrArg some (by kernel_rfl))⟩
 f27:=⟨Tryz.f153.name,by decide,Tryz.func153.trans (congrArg some (by kernel_rfl))⟩
 f28:=Tryz.func154.trans (congrArg some (by kernel_rfl))
 f29:=Tryz.func155.trans (congrArg some (by kernel_rfl))
 f46:=⟨Tryz.f191.name,by decide,Tryz.func191.trans (congrArg some (by kernel_rfl))⟩
 f47:=Tryz.func192.trans (congrArg some (by kernel_rfl))
 f48:=Tryz.func193.trans (congrArg some (by kernel_rfl))
 f49:=⟨Tryz.f194.name,by decide,Tryz.func194.trans (congrArg some (by kernel_rfl))⟩
 f50:=⟨Tryz.f195.name,by decide,Tryz.func195.trans (congrArg some (by kernel_rfl))⟩
 f57:=⟨Tryz.f223.name,by decide,Tryz.func223.trans (congrArg some (by kernel_rfl))⟩
 t0:=Tryz.underlying0
 a0:=Tryz.isAgg0
 z0:=Tryz.sizeOf0
 v0:=Tryz.zeroValue0
 t3:=Tryz.underlying3
 a3:=Tryz.isAgg3
 z3:=Tryz.sizeOf3
 v3:=Tryz.zeroValue3
 t4:=Tryz.underlying4
 a4:=Tryz.isAgg4
 z4:=Tryz.sizeOf4
 v4:=Tryz.zeroValue4
 t5:=Tryz.underlying5
 a5:=Tryz.isAgg5
 z5:=Tryz.sizeOf5
 v5:=Tryz.zeroValue5
 t9:=Tryz.underlying9
 a9:=Tryz.isAgg9
 z9:=Tryz.sizeOf9
 v9:=Tryz.zeroValue9
 t22:=Tryz.underlying139
 a22:=Tryz.isAgg139
 z22:=Tryz.sizeOf139
 v22:=Tryz.zeroValue139
 t25:=Tryz.underlying147
 a25:=Tryz.isAgg147
 z25:=Tryz.sizeOf147
 v25:=Tryz.zeroValue147
 t39:=Tryz.underlying191
 a39:=Tryz.isAgg191
 z39:=Tryz.sizeOf191
 v39:=Tryz.zeroValue191
 t45:=Tryz.underlying213
 a45:=Tryz.isAgg213
 z45:=Tryz.sizeOf213
 v45:=Tryz.zeroValue213
 t46:=Tryz.underlying214
 a46:=Tryz.isAgg214
 z46:=Tryz.sizeOf214
 v46:=Tryz.zeroValue214
 t50:=Tryz.underlying218
 a50:=Tryz.isAgg218
 z50:=Tryz.sizeOf218
 v50:=Tryz.zeroValue218
 t53:=Tryz.underlying221
 a53:=Tryz.isAgg221
 z53:=Tryz.sizeOf221
 v53:=Tryz.zeroValue221
 t55:=Tryz.underlying172
 a55:=Tryz.isAgg172
 z55:=Tryz.sizeOf172
 v55:=Tryz.zeroValue172
 t66:=Tryz.underlying249
 a66:=Tryz.isAgg249
 z66:=Tryz.sizeOf249
 v66:=Tryz.zeroValue249
 t70:=Tryz.underlying252
 a70:=Tryz.isAgg252
 z70:=Tryz.sizeOf252
 v70:=Tryz.zeroValue252
 t76:=Tryz.underlying284
 a76:=Tryz.isAgg284
 z76:=Tryz.sizeOf284
 v76:=Tryz.zeroValue284
 t77:=Tryz.underlying285
 a77:=Tryz.isAgg285
 z77:=Tryz.sizeOf285
 v77:=Tryz.zeroValue285 }
end
end Go.Proofs
namespace Go.Proofs.YtodpfeaihohpjaaGreatDoor.Cop
section
open Go.RowKit Go.Shelf Go.Sort
def sortBy {α:Type} (B:α→Prop) [DecidablePred B] (cf:α→α→Int) (d:{x // B x}) (xs:List α):List α:=
 if h:∀x∈xs,B x then
  (@pdq {x // B x} ⟨d⟩ (ltOf fun x y:{x // B x}=>cf x.1 y.1) (xs.attachWith B h).toArray 0 xs.length (Lib.bitLen xs.length) true true).toList.map (·.1)
 else xs
theorem zaN {α:Type} {B:α→Prop} {xs:List α} (h:∀x∈xs,B x):(xs.attachWith B h).map (·.1)=xs:=sM
def BP (p:Int×Int):Prop:=Bd 1000000 p.1∧Bd 1000000 p.2
instance:DecidablePred BP:=fun p=>by unfold BP Bd;exact inferInstance
def BP0:{x // BP x}:=⟨(0,0),by decide⟩
def cfX (p q:Int×Int):Int:=p.1-q.1
def sortX (ps:List (Int×Int)):List (Int×Int):=sortBy BP cfX BP0 ps
instance:Inhabited {x // BP x}:=⟨BP0⟩
theorem ltX (x y:{x // BP x}):ltOf (fun x y:{x // BP x}=>cfX x.1 y.1) x y=decide (x.1.1<y.1.1):=by
 unfold ltOf cfX;rw [decide_eq_decide];dsimp only;omega
theorem swoX:@SWO {x // BP x} (ltOf fun x y:{x // BP x}=>cfX x.1 y.1) where
 irrefl x:=by rw [ltX];simp
 trans x y z h1 h2:=by rw [ltX]at *;simp only [decide_eq_true_eq]at *;omega
 ntrans x y z h1 h2:=by rw [ltX]at *;simp only [decide_eq_false_iff_not]at *;omega
theorem zk8 (x y:{x // BP x}) (W:G):Calls Tryz.prog 99 #[.agg #[V I x.1.1,V I x.1.2],.agg #[V I y.1.1,V I y.1.2]] W fun e w'=>e = .returned (V I (cfX x.1 y.1))∧∃q os',w'=grow (W.drewN q) os':=by
 obtain⟨⟨h,i⟩,⟨c,d⟩,a⟩:=x;obtain⟨⟨j,k⟩,⟨f,g⟩,b⟩:=y;unfold cfX;dsimp only at *;clear a b;go_enter Tryz.func99,Tryz.ntmps99;go_wp2;go_ret;exact⟨rfl,0,_,by rw [alloc_eq_grow,alloc_eq_grow,grow_grow];rfl⟩
theorem cmpLaysX (blk a size:Nat) (w:G):CmpLays Tryz.prog 99 #[] (fun x:{x // BP x}=>pc x.1) 2 (fun x y=>cfX x.1 y.1) blk a size w:=
 fun _ _ _ _ x y=>zk8 x y _
theorem zhG {β:Type} [Inhabited β] {lt:β→β→Bool} (hO:SWO lt) (d:Array β) (l:Nat):(pdq lt d 0 d.size l true true).size=d.size∧(pdq lt d 0 d.size l true true).toList.Perm d.toList:=by
 obtain⟨a,_,b⟩:=(pdq_sorts lt hO d 0 d.size l true true (Nat.zero_le _) (nE _) (Or.inl rfl)).1;refine⟨a,?_⟩
 generalize pdq lt d 0 d.size l true true=d' at a b ⊢
 have c:d'.extract 0 d.size=d':=by rw [←a];exact Array.extract_size
 rw [c,Array.extract_size]at b;exact b
theorem zgY {α:Type} {B:α→Prop} [DecidablePred B] {cf:α→α→Int} {d:{x // B x}} {xs:List α} (hO:@SWO {x // B x} (ltOf fun x y:{x // B x}=>cf x.1 y.1)):(sortBy B cf d xs).Perm xs:=by
 unfold sortBy
 split
 ·rename_i h
  have b:=(@zhG {x // B x} ⟨d⟩ _ hO (xs.attachWith B h).toArray (Lib.bitLen xs.length)).2;have a:=b.map (·.1);rw [show (xs.attachWith B h).toArray.size=xs.length by simp]at a;have e:(xs.attachWith B h).toArray.toList.map (·.1)=xs:=zaN h;rw [e]at a;exact a
 ·exact List.Perm.refl _
theorem zba (ps:List (Int×Int)):(sortX ps).Perm ps:=zgY swoX
theorem zds (w:G) (base g n c:Nat) (ps:List (Int×Int)) (h:OwnC 33 2 w base (C (O ⟨g,0,J⟩) n c) (ps.map pc)) (z:PBd 1000000 ps) (D:ps.length≤1000000) :
  Calls Tryz.prog 100 #[C (O ⟨g,0,J⟩) n c,.func (.func 99) #[] #[]] w fun e w'=>e = .returned (.tuple #[])∧OwnC 33 2 w' base (C (O ⟨g,0,J⟩) n c) ((sortX ps).map pc)∧w.grownBy w' (O g):=by
 have o:=h.len;rw [lL]at o;obtain⟨d,l⟩:=gX ((ps.attachWith BP z).toArray);have a:d.size=n:=by rw [←l,o,List.size_toArray];exact List.length_attachWith
 have i:d.toList.map (fun x=>pc x.1)=ps.map pc:=by
  rw [←l,show (fun x:{x // BP x}=>pc x.1)=pc ∘ (·.1)from rfl,←List.map_map]
  congr 1
  exact zaN z
 have Q:sortX ps=(pdq (ltOf fun x y:{x // BP x}=>cfX x.1 y.1) d 0 d.size (Lib.bitLen d.size) true true).toList.map (·.1):=by
  unfold sortX sortBy;rw [dif_pos (show ∀x∈ps,BP x from z),a,l,o]
 have hg:=(h.lt g rfl).2;have K:∀args w,(callFunc 99 args).run Tryz.prog w = .ok (.enter 99 args) w:=enters_of Tryz.func99 kM rfl;have s:OwnC 33 2 w base (C (O ⟨g,0,J⟩) n c) (d.toList.map fun x=>pc x.1):=by rw [i];exact h
 have t:=zeT (enc:=fun x:{x // BP x}=>pc x.1) (fun _=>rfl) s;have b:Lib.bitLen d.size<4611686018427387904:=Nat.lt_of_le_of_lt (Lib.bitLen_le d.size 62 oM oM) oM;have k:Calls Tryz.prog 137 #[C (O ⟨g,0,J⟩) d.size c,V I 0,V I d.size,V I (Lib.bitLen d.size),.func (.func 99) #[] #[]] w fun e w'=>e = .returned (.tuple #[])∧SWK (fun x:{x // BP x}=>pc x.1) 2 w g 0 (pdq (ltOf fun x y:{x // BP x}=>cfX x.1 y.1) d 0 d.size (Lib.bitLen d.size) true true) w':=AnyQ.pdqsortCmpFunc_all (P:=Tryz.prog) (ρ:=Tryz.pdqPoint_ren) Tryz.pdqPoint 2 Tryz.isAgg33 Tryz.sizeOf33 (fun x:{x // BP x}=>pc x.1) (fun x y=>cfX x.1 y.1) 99 #[] swoX g 0 c d w K (cmpLaysX g 0 d.size w) ⟨fun _=>rfl,fun x v hv=>by simp [pc]at hv;rcases hv with rfl|rfl<;>rfl,t,hg⟩ (d.size+1) 0 d.size (Lib.bitLen d.size) d w oM rfl (SWK.start t) (Nat.zero_le _) (nE _) oM b (Or.inl rfl)
 have j:Calls Tryz.prog 122 #[V .u64 (d.size:Int)] w fun e w'=>e = .returned (V I (Lib.bitLen d.size:Nat))∧w'=w:=by
  have h:=Tryz.bits_Len (d.size:Int) w oM oM
  rwa [Int.toNat_natCast]at h
 have wr:IntKind.u64.wrap (d.size:Int)=d.size:=by simp [IntKind.wrap,IntKind.bits,IntKind.signed];omega
 have HX:=hd9 Q;have H':=hd9 s;rw [a]at wr;have f:=hd9 a;have T:n≤1000000:=oM
 rw [a]at k j;have r:=hd9 k;have q:=hd9 j;obtain⟨L,u⟩:=gX (Lib.bitLen n);rw [u]at k j;have Hp:=hd9 k;have Hl:=hd9 j;have HL:=hd9 u;clear k j Q s l a u b K i t h o D r q;go_enter Tryz.func100,Tryz.ntmps100
 go_wp2_with(first|((go_at_call 122;(with_reducible refine Hl.out.mono ?_);rintro e w' ⟨rfl,rfl⟩))|((go_at_call 137;(with_reducible refine Hp.out.mono ?_);rintro e w' ⟨rfl,m,os,rfl⟩)))
 go_end0
 refine⟨rfl,?_,zdB _⟩;have:=zes (m:=m) (os:=os) (enc:=fun x:{x // BP x}=>pc x.1) (fun _=>rfl) (d':=pdq (ltOf fun x y:{x // BP x}=>cfX x.1 y.1) d 0 n L true true) H'.out ?_
 ·rw [HX.out,f.out,HL.out,List.map_map]
  exact this
 ·have:=(zhG swoX d L).1
  rw [f.out]at this ⊢;exact this
end
section
open Go.RowKit Go.Shelf
theorem ziv {P:Program} {T t:TypeId} {k:Nat} {z:N} {w:G} {base g n cap m o c2:Nat} {cs:List (List N)}
  (hz:∀w,(zeroValue T).run P w = .ok z w) (ae:z.cells.size=k) (ad:∀u∈z.cells.toList,u.oneCell'=true) (ht:P.underlying t=O (.slice T)) (a:OwnC T k w base (C (O ⟨g,0,J⟩) n cap) cs) (hm:m<n) (ho:o=m*k) :
  ∃w',(∀ty,(Builtin.clear_ #[t] ty #[C (O ⟨g,o,J⟩) (n-m) c2]).run P w = .ok (.tuple #[]) w')∧OwnC T k w' base (C (O ⟨g,0,J⟩) m cap) (cs.take m)∧w.grownBy w' (O g):=by
 have hn:=a.len;subst hn ho
 rcases a.2.2 with ⟨h2,_⟩|⟨g',af,cur,hv,hg,hh,ab,y,D,ac⟩
 ·cases h2
 ·cases hv
  have i:(Builtin.zeroCells z.cells (cs.length-m)).toList.length=(cs.length-m)*k:=by simp [Builtin.zeroCells,ae]
  have l:∀u∈(Builtin.zeroCells z.cells (cs.length-m)).toList,u.oneCell'=true:=by
   intro u h;simp [Builtin.zeroCells]at h;obtain⟨j,q,h⟩:=h
   have d:0<z.cells.size:=by
    rcases Nat.eq_zero_or_pos z.cells.size with s|s
    ·rw [s]at q;simp at q
    ·exact s
   have Q:j % z.cells.size<z.cells.size:=Nat.mod_lt _ d;rw [getElem!_pos z.cells _ Q]at h;exact ad u (by rw [←h];simp)
  have K:cs.length*k≤cur.size:=by rw [D];exact Nat.mul_le_mul_right _ ab
  have aa:m*k+(cs.length-m)*k=cs.length*k:=by rw [←Nat.add_mul];congr 1;omega
  have f:=run_storeCells_at P g (m*k) T (Builtin.zeroCells z.cells (cs.length-m)).toList 0 cur w hh (by rw [i,Nat.add_zero,aa];exact K) l;refine⟨w.setRow g (cur.toList.take (m*k+0)++(Builtin.zeroCells z.cells (cs.length-m)).toList++cur.toList.drop (m*k+0+(Builtin.zeroCells z.cells (cs.length-m)).toList.length)).toArray,?_,⟨fun c x=>a.1 c (List.mem_of_mem_take x),?_,?_⟩,⟨rfl,rfl,rfl,by simp,fun j _ q=>setRow_other w g j _ (fun e=>q (by simp [e]))⟩⟩
  ·intro ty
   obtain⟨r,hr⟩:∃r,cs.length-m=r+1:=⟨cs.length-m-1,by omega⟩;rw [hr]at f ⊢;simp [Builtin.clear_,run_underlying ht,hz,f]
  ·rw [zaq (fun c x=>a.1 c (List.mem_of_mem_take x))]
  ·have hl:(cs.take m).length=m:=by rw [List.length_take];omega
   rw [hl];refine .inr ⟨g,cap,_,rfl,hg,setRow_heap w g cur _ T _ hh,by omega,y,?_,?_⟩
   ·rw [List.size_toArray,lA,lA,i,List.length_take,List.length_drop,Array.length_toList]
    omega
   ·have b:m*k≤cur.size:=by have:=Nat.mul_le_mul_right k (show m≤cs.length by omega);omega
    rw [←zbh m a.1 oM,←ac,List.take_take,Nat.min_eq_left (Nat.mul_le_mul_right _ oM)];rw [List.append_assoc,List.take_append,List.length_take,Nat.add_zero,Array.length_toList,Nat.min_eq_left b,Nat.sub_self,List.take_zero,List.append_nil,List.take_take,Nat.min_self]
def compactP {α:Type} [DecidableEq α]:List α→List α
 | []=>[]
 | [a]=>[a]
 | a::b::r=>if a=b then compactP (b::r)else a::compactP (b::r)
theorem zaW {α:Type} [DecidableEq α]:∀(d:List α) (a b:α),compactP (d++[a]++[b])=if a=b then compactP (d++[a])else compactP (d++[a])++[b]
 | [],a,b=>by
  by_cases h:a=b<;>simp [compactP,h]
 | [x],a,b=>by
  have:=zaW [] a b;simp only [List.nil_append,List.cons_append]at this ⊢
  by_cases c:x=a
  ·simp only [compactP,if_pos c];simp only [compactP]at this;exact this
  ·by_cases h:a=b
   ·simp [compactP,c,h]
   ·simp [compactP,c,h]
 | x::y::d,a,b=>by
  have:=zaW (y::d) a b;simp only [List.cons_append]at this ⊢
  by_cases c:x=y
  ·simp only [compactP,if_pos c];exact this
  ·simp only [compactP,if_neg c,this];split<;>rfl
theorem zbK {α:Type} [DecidableEq α]:∀(c:List α),(∀(j:Nat) (a b:α),c[j]?=O a→c[j+1]?=O b→a≠b)→compactP c=c
 | [],_=>rfl
 | [a],_=>rfl
 | a::b::r,h=>by
  rw [compactP,if_neg (h 0 a b rfl rfl),zbK (b::r) (fun j x y d e=>h (j+1) x y (by simpa using d) (by simpa using e))]
def RetK (base:Nat) (w:G) (v:N) (a:List (Int×Int)) (e:Ending) (w':G):Prop:=∃v',e = .returned v'∧OwnC 33 2 w' base v' (a.map pc)∧w.grownBy w' v.ownBlock∧(v'.ownBlock=v.ownBlock)
def CkS (w:G) (base:Nat) (v:N) (ps:List (Int×Int)) (g:Nat) (t3:N) (W:G):Prop:=
 ∃m:Nat,m+1≤ps.length∧t3=V I ((m+1:Nat):Int)∧g=ps.length-(m+1)∧(∀(j:Nat) (a b:Int×Int),j+1<m+1→ps[j]?=O a→ps[j+1]?=O b→a≠b)∧OwnC 33 2 W base v (ps.map pc)∧w.grownBy W v.ownBlock
def CiL (ps:List (Int×Int)) (k a c:Nat) (b:List (Int×Int)):Prop:=
 b.length=ps.length∧1≤c∧c≤k+a∧k+a+1≤ps.length∧b.take c=compactP (ps.take (k+a+1))∧∀j,k+a≤j→b[j]?=ps[j]?
def CiS (w:G) (base:Nat) (v:N) (ps:List (Int×Int)) (k:Nat) (g:Nat) (t3 t5:N) (W:G):Prop:=
 ∃(a c:Nat) (b:List (Int×Int)),t5=V I ((a+1:Nat):Int)∧t3=V I (c:Int)∧g=ps.length-(a+1)∧CiL ps k a c b∧OwnC 33 2 W base v (b.map pc)∧w.grownBy W v.ownBlock
theorem zfA {α:Type} {xs:List α} {m:Nat} {a b:α} (c:xs[m]?=O a) (d:xs[m+1]?=O b):xs.take (m+2)=xs.take m++[a]++[b]:=by
 rw [zab _ _ _ d,zab _ _ _ c]
theorem CiL.start {ps:List (Int×Int)} {m:Nat} {a:Int×Int} (h:∀(j:Nat) (a b:Int×Int),j+1<m+1→ps[j]?=O a→ps[j+1]?=O b→a≠b) (e:ps[m]?=O a) (f:ps[m+1]?=O a):CiL ps (m+1) 0 (m+1) ps:=by
 have g:=(lS.1 f).1;refine⟨rfl,by omega,by omega,by omega,?_,fun _ _=>rfl⟩;rw [show m+1+0+1=m+2 by omega,zfA e f,zaW,if_pos rfl,←zab _ _ _ e,zbK];intro j x y d c;rw [List.getElem?_take]at d c
 split at c
 ·rename_i h2
  rw [if_pos oM]at d;exact h j x y h2 d c
 ·cases c
theorem CiL.same {ps e:List (Int×Int)} {k a c:Nat} {p:Int×Int} (h:CiL ps k a c e) (b:ps[k+a]?=O p) (d:ps[k+a+1]?=O p):CiL ps k (a+1) c e:=by
 obtain⟨f,g,l,m,i,h6⟩:=h;have o:=(lS.1 d).1;refine⟨f,g,by omega,by omega,?_,fun j n=>h6 j oM⟩;rw [i,show k+(a+1)+1=k+a+2 by omega,zfA b d,zaW,if_pos rfl,←zab _ _ _ b]
theorem CiL.other {ps d:List (Int×Int)} {k a c:Nat} {p q:Int×Int} (h:CiL ps k a c d) (e:ps[k+a]?=O p) (f:ps[k+a+1]?=O q) (b:p≠q):CiL ps k (a+1) (c+1) (d.set c q):=by
 obtain⟨g,l,m,n,i,h6⟩:=h;have r:=(lS.1 f).1;refine⟨by rw [List.length_set];exact g,by omega,by omega,by omega,?_,fun j o=>by rw [List.getElem?_set_ne oM];exact h6 j oM⟩;rw [show k+(a+1)+1=k+a+2 by omega,zfA e f,zaW,if_neg b,←zab _ _ _ e,←i,zab _ _ _ (show (d.set c q)[c]?=O q by rw [List.getElem?_set_self oM]),List.take_set_of_le (nE _)]
theorem CiL.get {ps b:List (Int×Int)} {k a c:Nat} (h:CiL ps k a c b) {j:Nat} (d:k+a≤j) {q:Int×Int} (e:ps[j]?=O q):(b.map pc)[j]?=O (pc q):=by
 rw [lP,h.2.2.2.2.2 j d,e];rfl
theorem zdL (w:G) (base:Nat) (v:N) (ps:List (Int×Int)) (h:OwnC 33 2 w base v (ps.map pc)) (aI:ps.length≤1000000) :
  Calls Tryz.prog 101 #[v] w (RetK base w v (compactP ps)):=by
 obtain⟨a,n,c,rfl⟩:=h.form3;have hl:=h.len;rw [lL]at hl;obtain⟨R,hR⟩:=gX (RetK base w (C a n c) (compactP ps));rw [hR];have HR:=hd9 hR;have r:Hid (ps.length=n):=hd9 hl.symm;clear hR
 by_cases h2:n<2
 ·have e:compactP ps=ps:=by
   apply zbK
   intro j x y hx hy;have:=(lS.1 hy).1;omega
  have E:=hd9 e;have aB:(n:Int)<2:=oM
  clear hl e h2;go_enter Tryz.func101,Tryz.ntmps101;go_wp2;rw [←HR.out,E.out];exact⟨_,rfl,h,World.grownBy.refl _ _,rfl⟩
 ·obtain⟨g,rfl,aS,aT⟩:=h.blk (by rw [lL];omega)
  have aB:¬(n:Int)<2:=oM
  have aJ:n≤c:=by
   rcases h.2.2 with ⟨h9,_⟩|⟨g',cap,cur,hv,_,_,av,_⟩
   ·cases h9
   ·cases hv;rw [lL]at av;omega
  have aD:c≤9223372036854775807:=by
   rcases h.2.2 with ⟨h9,_⟩|⟨g',cap,cur,hv,_,_,av,aG,_⟩
   ·cases h9
   ·cases hv;unfold maxLen at aG;omega
  rw [←hl]at aI;clear hl;go_enter Tryz.func101,Tryz.ntmps101;go_wp2
  go_loopg [3] (n-1) (CkS w base (C (O ⟨g,0,J⟩) n c) ps)
  case atStart=>exact⟨0,by rw [r.out];omega,rfl,by rw [r.out],fun j a b hj=>by omega,h,World.grownBy.refl _ _⟩
  case round =>
   clear h;obtain⟨m,hm,rfl,rfl,ac,f,Q⟩:=hrel;rw [r.out]at hm;have T:=hd9 ac;have aa:=hd9 f;have ae:=hd9 Q
   by_cases aU:m+1<n
   ·obtain⟨⟨x,z⟩,hq⟩:∃q,ps[m+1]?=O q:=⟨ps[m+1]'(by rw [r.out];omega),by simp⟩
    obtain⟨⟨x',z'⟩,af⟩:∃q,ps[m]?=O q:=⟨ps[m]'(by rw [r.out];omega),by simp⟩;have d0:=f.cell (i:=m+1) (j:=0) (d:=pc (x,z)) (by rw [lP,hq];rfl) rfl;have d1:=f.cell (i:=m+1) (j:=1) (d:=pc (x,z)) (by rw [lP,hq];rfl) rfl;have d2:=f.cell (i:=m) (j:=0) (d:=pc (x',z')) (by rw [lP,af];rfl) rfl;have d3:=f.cell (i:=m) (j:=1) (d:=pc (x',z')) (by rw [lP,af];rfl) rfl;simp only [Nat.add_zero]at d0 d2;dsimp only at d0 d1 d2 d3;have u1:((m+1:Nat):Int)-1=(m:Int):=oM
    have p1:(0:Int)≤(m:Int):=oM
    have p2:(m:Int)<(n:Int):=oM
    have p3:((m+1:Nat):Int)<(n:Int):=oM
    have Hq:=hd9 hq;have ak:=hd9 af;clear ac f Q hq af
    by_cases K:x=x'
    ·have f1:(x==x')=true:=by simpa using K
     by_cases e2:z=z'
     ·have f2:(z==z')=true:=by simpa using e2
      have ax:CiL ps (m+1) 0 (m+1) ps:=by subst K e2;exact CiL.start T.out ak.out Hq.out
      have ay:=hd9 ax;have p4:((m+1:Nat):Int)≤(n:Int):=oM
      have p5:(n:Int)≤(c:Int):=oM
      have p6:((m+1:Nat):Int)<(c:Int):=oM
      clear K e2 ax;go_wp2
      go_quiet (fail)
      clear d0 d1 d2 d3;go_wp2;obtain⟨L,hL⟩:=gX (n-(m+1));obtain⟨kk,an⟩:=gX ((m+1)*2);rw [hL,an];have ar:Hid (n-(m+1)=L∧(m+1)*2=kk):=hd9 ⟨hL,an⟩;have aP:L+m+1=n:=oM
      clear hL an;have ag:=zch ae.out nq
      go_loopg [3,5] (n-1) (CiS w base (C (O ⟨g,0,J⟩) n c) ps (m+1))
      case atStart=>exact⟨0,m+1,ps,rfl,rfl,by rw [r.out],ay.out,aa.out,ag⟩
      case round =>
       clear ag;obtain⟨k,s,ys,rfl,rfl,rfl,hL,f,Q⟩:=hrel;have aC:=hL.2.2.2.1;rw [r.out]at aC;have aQ:=hL.2.2.1
       by_cases aO:k+1<L
       ·obtain⟨⟨qx,qz⟩,ap⟩:∃q,ps[m+1+k+1]?=O q:=⟨ps[m+1+k+1]'(by rw [r.out];omega),by simp⟩
        obtain⟨⟨px,pz⟩,ao⟩:∃q,ps[m+1+k]?=O q:=⟨ps[m+1+k]'(by rw [r.out];omega),by simp⟩;have gq:=hL.get oM ap;have gp:=hL.get oM ao;have d0:=f.cell (j:=0) gq rfl;have d1:=f.cell (j:=1) gq rfl;have d2:=f.cell (j:=0) gp rfl;have d3:=f.cell (j:=1) gp rfl;have a0:(m+1+k+1)*2+0=kk+(k+1)*2:=by have:=ar.out.2;omega
        have a1:(m+1+k+1)*2+1=kk+(k+1)*2+1:=oM
        have a2:(m+1+k)*2+0=kk+k*2:=by have:=ar.out.2;omega
        have a3:(m+1+k)*2+1=kk+k*2+1:=oM
        rw [a0]at d0;rw [a1]at d1;rw [a2]at d2;rw [a3]at d3;dsimp only at d0 d1 d2 d3;have aR:=f.frozen;have D:=hd9 f;have ab:=hd9 Q;have ah:=hd9 hL;have al:=hd9 ap;have aj:=hd9 ao;have u1:((k+1:Nat):Int)-1=(k:Int):=oM
        have aW:(0:Int)≤(k:Int):=oM
        have aX:(k:Int)<(L:Int):=oM
        have aY:((k+1:Nat):Int)<(L:Int):=oM
        have aE:s<n:=oM
        have aL:(s:Int)<(n:Int):=oM
        have aK:(0:Int)≤(s:Int):=oM
        obtain⟨⟨rx,rz⟩,hr⟩:∃q,ys[s]?=O q:=⟨ys[s]'(by rw [hL.1,r.out];exact aE),by simp⟩;have gr:(ys.map pc)[s]?=O (pc (rx,rz)):=by rw [lP,hr];rfl
        have d4:=f.cell (j:=0) gr rfl;have d5:=f.cell (j:=1) gr rfl;simp only [Nat.add_zero]at d4;dsimp only at d4 d5;have aq:=hd9 gr;clear f Q hL ap ao gq gp a0 a1 a2 a3 gr hr
        by_cases K:qx=px
        ·have g1:(qx != px)=false:=by simpa using K
         have az:(qx==px)=true:=by simpa using K
         by_cases e2:qz=pz
         ·have g2:(qz != pz)=false:=by simpa using e2
          have aA:(qz==pz)=true:=by simpa using e2
          have l:CiL ps (m+1) (k+1) s ys:=by subst K e2;exact ah.out.same aj.out al.out
          have u:=hd9 l;clear K e2 l;go_wp2
          go_quiet (fail)
          go_wp2
          go_roundg (n-(k+1+1))
          case measure=>have:=r.out;omega
          case rel=>exact⟨k+1,s,ys,by go_num,rfl,by rw [r.out],u.out,D.out,zch ab.out _⟩
         ·have g2:(qz != pz)=true:=by simpa using e2
          have aA:(qz==pz)=false:=by simpa using e2
          have l:CiL ps (m+1) (k+1) (s+1) (ys.set s (qx,qz)):=ah.out.other aj.out al.out (by simp;omega);have u:=hd9 l;clear K e2 l;go_wp2
          go_quiet (fail)
          go_wp2
          go_roundg (n-(k+1+1))
          case measure=>have:=r.out;omega
          case rel =>
           refine⟨k+1,s+1,ys.set s (qx,qz),by go_num,by go_num,by rw [r.out],u.out,?_,zcJ (zcJ (zch ab.out _) _ _) _ _⟩;rw [←zcj];exact OwnC.pair (D.out.ext ((eR _).drewN _)) aq.out _ _
        ·have g1:(qx != px)=true:=by simpa using K
         have az:(qx==px)=false:=by simpa using K
         have l:CiL ps (m+1) (k+1) (s+1) (ys.set s (qx,qz)):=ah.out.other aj.out al.out (by simp;omega);have u:=hd9 l;clear K l;go_wp2
         go_quiet (fail)
         go_wp2
         go_roundg (n-(k+1+1))
         case measure=>have:=r.out;omega
         case rel =>
          refine⟨k+1,s+1,ys.set s (qx,qz),by go_num,by go_num,by rw [r.out],u.out,?_,zcJ (zcJ (zch ab.out _) _ _) _ _⟩;rw [←zcj];exact OwnC.pair (D.out.ext ((eR _).drewN _)) aq.out _ _
       ·have aV:m+1+k+1=n:=oM
        have aF:(ys.take s)=compactP ps:=by rw [hL.2.2.2.2.1,lT (by rw [r.out];omega)]
        have au:s<n:=oM
        obtain⟨wc,aM,aw,aH⟩:=ziv (P:=Tryz.prog) (t:=99) (z:=.agg #[V I 0,V I 0]) (w:=wr) (o:=s*2) (c2:=c-s) (fun w=>Tryz.zeroValue33 w) rfl (by simp [Value.cells];rfl) Tryz.underlying99 f au rfl;have c1:(0:Int)≤(s:Int):=oM
        have c2:(s:Int)≤(n:Int):=oM
        have c3:(n:Int)≤(c:Int):=oM
        have c4:(s:Int)<(c:Int):=oM
        have c5:s<c:=oM
        go_wp2;rw [←HR.out];refine⟨_,rfl,?_,Q.trans aH,rfl⟩;rw [←List.map_take,aF]at aw;exact aw
     ·have f2:(z==z')=false:=by simpa using e2
      have ad:((x',z'):Int×Int)≠(x,z):=by simp;omega
      have ai:=hd9 ad;clear K e2 ad;go_wp2
      go_quiet (fail)
      go_wp2
      go_roundg (n-(m+1+1))
      case measure=>have:=r.out;omega
      case rel =>
       refine⟨m+1,by have:=r.out;omega,by go_num,by rw [r.out],fun j a b hj ha hb=>?_,aa.out,zch ae.out _⟩
       by_cases am:j=m
       ·subst am;rw [ak.out]at ha;rw [Hq.out]at hb;cases ha;cases hb;exact ai.out
       ·exact T.out j a b oM ha hb
    ·have f1:(x==x')=false:=by simpa using K
     have ad:((x',z'):Int×Int)≠(x,z):=by simp;omega
     have ai:=hd9 ad;clear K ad;go_wp2
     go_quiet (fail)
     go_wp2
     go_roundg (n-(m+1+1))
     case measure=>have:=r.out;omega
     case rel =>
      refine⟨m+1,by have:=r.out;omega,by go_num,by rw [r.out],fun j a b hj ha hb=>?_,aa.out,zch ae.out _⟩
      by_cases am:j=m
      ·subst am;rw [ak.out]at ha;rw [Hq.out]at hb;cases ha;cases hb;exact ai.out
      ·exact T.out j a b oM ha hb
   ·have e:compactP ps=ps:=zbK ps (fun j a b ha hb=>T.out j a b (by have:=(lS.1 hb).1;rw [r.out]at this;omega) ha hb)
    have E:=hd9 e;have p3:¬((m+1:Nat):Int)<(n:Int):=oM
    clear e ac f Q;go_wp2;rw [←HR.out,E.out];exact⟨_,rfl,aa.out,ae.out,rfl⟩
def edgeLow (cs:List (Int×Int)) (i:Nat):List (Int×Int):=if (cs.getD i (0,0)).1<(cs.getD ((i+1) % cs.length) (0,0)).1 then [cs.getD i (0,0),cs.getD ((i+1) % cs.length) (0,0)]else []
def edgeUp (cs:List (Int×Int)) (i:Nat):List (Int×Int):=if (cs.getD ((i+1) % cs.length) (0,0)).1<(cs.getD i (0,0)).1 then [cs.getD i (0,0),cs.getD ((i+1) % cs.length) (0,0)]else []
def lowRaw (cs:List (Int×Int)) (i:Nat):List (Int×Int):=(List.range i).flatMap (edgeLow cs)
def upRaw (cs:List (Int×Int)) (i:Nat):List (Int×Int):=(List.range i).flatMap (edgeUp cs)
theorem zbQ (cs:List (Int×Int)) (i:Nat):lowRaw cs (i+1)=lowRaw cs i++edgeLow cs i:=by simp [lowRaw,List.range_succ]
theorem zcq (cs:List (Int×Int)) (i:Nat):upRaw cs (i+1)=upRaw cs i++edgeUp cs i:=by simp [upRaw,List.range_succ]
theorem zhd {cs:List (Int×Int)} {i:Nat} (h:i<cs.length):∀q∈edgeLow cs i++edgeUp cs i,q∈cs:=by
 have b:cs.getD i (0,0)∈cs:=by rw [gD,gE h];exact List.getElem_mem h
 have c:cs.getD ((i+1) % cs.length) (0,0)∈cs:=by
  have:(i+1) % cs.length<cs.length:=Nat.mod_lt _ oM;rw [gD,gE this];exact List.getElem_mem this
 intro q a;unfold edgeLow edgeUp at a
 rcases List.mem_append.1 a with a|a
 ·split at a
  ·simp at a;rcases a with rfl|rfl
   ·simpa using b
   ·simpa using c
  ·simp at a
 ·split at a
  ·simp at a;rcases a with rfl|rfl
   ·simpa using b
   ·simpa using c
  ·simp at a
theorem ze9 {k:Int} {cs:List (Int×Int)} (h:PBd k cs) {i:Nat} (hi:i≤cs.length):PBd k (lowRaw cs i)∧PBd k (upRaw cs i):=by
 refine⟨fun q a=>?_,fun q a=>?_⟩
 ·obtain⟨j,b,a⟩:=List.mem_flatMap.1 a
  exact h q (zhd (by have:=List.mem_range.1 b;omega) q (List.mem_append_left _ a))
 ·obtain⟨j,b,a⟩:=List.mem_flatMap.1 a
  exact h q (zhd (by have:=List.mem_range.1 b;omega) q (List.mem_append_right _ a))
theorem zgP (cs:List (Int×Int)) (i:Nat):(lowRaw cs i).length≤2*i∧(upRaw cs i).length≤2*i:=by
 induction i with
 | zero=>exact⟨by simp [lowRaw],by simp [upRaw]⟩
 | succ i c =>
  rw [zbQ,zcq,lA,lA];have a:(edgeLow cs i).length≤2:=by unfold edgeLow;split<;>simp
  have b:(edgeUp cs i).length≤2:=by unfold edgeUp;split<;>simp
  omega
def lineOf (a:List (Int×Int)):List (Int×Int):=compactP (sortX a)
def lowP2 (p:Pl):List (Int×Int):=lineOf (lowRaw (cornersP p) (cornersP p).length)
def upP2 (p:Pl):List (Int×Int):=lineOf (upRaw (cornersP p) (cornersP p).length)
def lac (p:Pl) (v vl vu:N):Array N:=#[.string p.name,v,V I p.depth,V I p.density,V I p.gx,V I p.gz,V I p.way,V I p.ax,V I p.az,V .u8 p.skin,vl,vu]
def la0:Array N:=#[.string ⟨#[]⟩,C J 0 0,V I 0,V I 0,V I 0,V I 0,V I 0,V I 0,V I 0,V .u8 0,C J 0 0,C J 0 0]
def RetO (w:G) (p:Pl) (v:N) (e:Ending) (w':G):Prop:=∃vl vu,e = .returned (.agg (lac p v vl vu))∧IsPts w' vl (lowP2 p)∧IsPts w' vu (upP2 p)∧Ext w w'
def OuW (w:G) (base:Nat) (p:Pl) (v:N) (L U:List (Int×Int)) (vl vu:N) (W:G):Prop:=
 Ext w W∧w.heap.size+1+1<base∧base≤W.heap.size∧W.heap[w.heap.size]?=O (H (plc p v) 37 (0,0))∧W.heap[w.heap.size+1]?=O (H la0 101 (0,0)) ∧
 W.heap[w.heap.size+1+1]?=O (H (lac p v vl vu) 101 (0,0))∧OwnC 33 2 W base vl (L.map pc)∧OwnC 33 2 W base vu (U.map pc)∧∀j,vl.ownBlock=O j→vu.ownBlock≠O j
section
variable {w W w':G} {base:Nat} {p:Pl} {v vl vu vl' vu':N} {L U L' U':List (Int×Int)}
theorem OuW.ext (h:OuW w base p v L U vl vu W) (k:Ext W w'):OuW w base p v L U vl vu w':=by
 obtain⟨a,b,c,d,e,h6,f,g,i⟩:=h;exact⟨a.trans k,b,nT c k.size,k.heapS d,k.heapS e,k.heapS h6,f.ext k,g.ext k,i⟩
theorem OuW.low (h:OuW w base p v L U vl vu W) (b:W.grownBy w' vl.ownBlock) (r:OwnC 33 2 w' base vl (L'.map pc)):OuW w base p v L' U vl vu w':=by
 obtain⟨l,m,c,n,o,h6,d,q,f⟩:=h;have a:∀k,k<base→O k≠vl.ownBlock:=fun k g e=>by have:=(d.lt k e.symm).1;omega
 refine⟨l.thenB (zah b c (fun k g=>(d.lt k g).1)) oM,m,nT c b.size,zaj b n (a _ oM),zaj b o (a _ oM),zaj b h6 (a _ oM),r,q.grown b ?_,f⟩
 cases e:vu.ownBlock with
 | none=>exact .inl rfl
 | some j=>exact .inr (fun i=>f j i.symm e)
theorem OuW.up (h:OuW w base p v L U vl vu W) (b:W.grownBy w' vu.ownBlock) (r:OwnC 33 2 w' base vu (U'.map pc)):OuW w base p v L U' vl vu w':=by
 obtain⟨l,m,c,n,o,h6,q,d,f⟩:=h;have a:∀k,k<base→O k≠vu.ownBlock:=fun k g e=>by have:=(d.lt k e.symm).1;omega
 refine⟨l.thenB (zah b c (fun k g=>(d.lt k g).1)) oM,m,nT c b.size,zaj b n (a _ oM),zaj b o (a _ oM),zaj b h6 (a _ oM),q.grown b ?_,r,f⟩
 cases e:vl.ownBlock with
 | none=>exact .inl rfl
 | some j=>exact .inr (fun i=>f j e i.symm)
theorem zjH {W:G} {b:Nat} (h:W.heap[b]?=O (H (lac p v vl vu) 101 (0,0))) (u:N):(W.setCell ⟨b,10,J⟩ u).heap[b]?=O (H (lac p v u vu) 101 (0,0)):=by
 simp [World.setCell,Array.getElem?_modify,h,lac]
theorem zjI {W:G} {b:Nat} (h:W.heap[b]?=O (H (lac p v vl vu) 101 (0,0))) (u:N):(W.setCell ⟨b,11,J⟩ u).heap[b]?=O (H (lac p v vl u) 101 (0,0)):=by
 simp [World.setCell,Array.getElem?_modify,h,lac]
theorem OuW.setLow (h:OuW w base p v L U vl vu W) (b:W.grownBy w' vl.ownBlock) (f:OwnC 33 2 w' base vl' (L'.map pc)) (D:vl'.ownBlock=vl.ownBlock∨vl'.ownBlock=O W.heap.size) :
  OuW w base p v L' U vl' vu (w'.setCell ⟨w.heap.size+1+1,10,J⟩ vl'):=by
 obtain⟨s,t,i,x,y,h6,l,m,n⟩:=h;have a:∀k,k<base→O k≠vl.ownBlock:=fun k o e=>by have:=(l.lt k e.symm).1;omega
 have z:=zah b i (fun k o=>(l.lt k o).1);have d:∀{u:N} {q:List (List N)} {W:G},OwnC 33 2 W base u q→u.ownBlock≠O (w.heap.size+1+1):=fun f e=>by have:=(f.lt _ e).1;omega
 have c:OwnC 33 2 w' base vu (U.map pc):=m.grown b (by
  cases e:vu.ownBlock with
  | none=>exact .inl rfl
  | some j=>exact .inr (fun r=>n j r.symm e))
 refine⟨(s.thenB z oM).set dO _,t,by rw [qcZ];exact nT i b.size,?_,?_,zjH (zaj b h6 (a _ oM)) _,f.setOther (d f) _,c.setOther (d c) _,?_⟩
 ·rw [bS _ _ _ _ dO];exact zaj b x (a _ oM)
 ·rw [bS _ _ _ _ dO];exact zaj b y (a _ oM)
 ·intro j g e
  rcases D with h|h
  ·exact n j (h▸g) e
  ·rw [h]at g
   cases g
   have:=(m.lt _ e).2;omega
theorem OuW.setUp (h:OuW w base p v L U vl vu W) (b:W.grownBy w' vu.ownBlock) (f:OwnC 33 2 w' base vu' (U'.map pc)) (D:vu'.ownBlock=vu.ownBlock∨vu'.ownBlock=O W.heap.size) :
  OuW w base p v L U' vl vu' (w'.setCell ⟨w.heap.size+1+1,11,J⟩ vu'):=by
 obtain⟨s,t,g,x,y,h6,i,l,m⟩:=h;have a:∀k,k<base→O k≠vu.ownBlock:=fun k o e=>by have:=(l.lt k e.symm).1;omega
 have z:=zah b g (fun k o=>(l.lt k o).1);have d:∀{u:N} {q:List (List N)} {W:G},OwnC 33 2 W base u q→u.ownBlock≠O (w.heap.size+1+1):=fun f e=>by have:=(f.lt _ e).1;omega
 have c:OwnC 33 2 w' base vl (L.map pc):=i.grown b (by
  cases e:vl.ownBlock with
  | none=>exact .inl rfl
  | some j=>exact .inr (fun r=>m j e r.symm))
 refine⟨(s.thenB z oM).set dO _,t,by rw [qcZ];exact nT g b.size,?_,?_,zjI (zaj b h6 (a _ oM)) _,c.setOther (d c) _,f.setOther (d f) _,?_⟩
 ·rw [bS _ _ _ _ dO];exact zaj b x (a _ oM)
 ·rw [bS _ _ _ _ dO];exact zaj b y (a _ oM)
 ·intro j n e
  rcases D with h|h
  ·exact m j n (h▸e)
  ·rw [h]at e
   cases e
   have:=(i.lt _ n).2;omega
theorem znP {W:G} {b:Nat} (h:W.heap[b]?=O (H (lac p v vl vu) 101 (0,0))) :
  W.cell? ⟨b,0,J⟩=O (.string p.name)∧W.cell? ⟨b,1,J⟩=O v∧W.cell? ⟨b,2,J⟩=O (V I p.depth)∧W.cell? ⟨b,3,J⟩=O (V I p.density)∧W.cell? ⟨b,4,J⟩=O (V I p.gx)∧W.cell? ⟨b,5,J⟩=O (V I p.gz) ∧
  W.cell? ⟨b,6,J⟩=O (V I p.way)∧W.cell? ⟨b,7,J⟩=O (V I p.ax)∧W.cell? ⟨b,8,J⟩=O (V I p.az)∧W.cell? ⟨b,9,J⟩=O (V .u8 p.skin)∧W.cell? ⟨b,10,J⟩=O vl∧W.cell? ⟨b,11,J⟩=O vu∧(∀i,W.frozen? ⟨b,i,J⟩=false)∧b<W.heap.size:=
 ⟨qcB h (i:=0) rfl,qcB h (i:=1) rfl,qcB h (i:=2) rfl,qcB h (i:=3) rfl,qcB h (i:=4) rfl,qcB h (i:=5) rfl,qcB h (i:=6) rfl,qcB h (i:=7) rfl,qcB h (i:=8) rfl,qcB h (i:=9) rfl,qcB h (i:=10) rfl,qcB h (i:=11) rfl,qfB h,zaa h⟩
theorem znO {W:G} {b:Nat} (h:W.heap[b]?=O (H la0 101 (0,0))) :
  W.cell? ⟨b,0,J⟩=O (.string ⟨#[]⟩)∧W.cell? ⟨b,1,J⟩=O (C J 0 0)∧W.cell? ⟨b,2,J⟩=O (V I 0)∧W.cell? ⟨b,3,J⟩=O (V I 0)∧W.cell? ⟨b,4,J⟩=O (V I 0)∧W.cell? ⟨b,5,J⟩=O (V I 0) ∧
  W.cell? ⟨b,6,J⟩=O (V I 0)∧W.cell? ⟨b,7,J⟩=O (V I 0)∧W.cell? ⟨b,8,J⟩=O (V I 0)∧W.cell? ⟨b,9,J⟩=O (V .u8 0)∧W.cell? ⟨b,10,J⟩=O (C J 0 0)∧W.cell? ⟨b,11,J⟩=O (C J 0 0)∧(∀i,W.frozen? ⟨b,i,J⟩=false)∧b<W.heap.size:=
 ⟨qcB h (i:=0) rfl,qcB h (i:=1) rfl,qcB h (i:=2) rfl,qcB h (i:=3) rfl,qcB h (i:=4) rfl,qcB h (i:=5) rfl,qcB h (i:=6) rfl,qcB h (i:=7) rfl,qcB h (i:=8) rfl,qcB h (i:=9) rfl,qcB h (i:=10) rfl,qcB h (i:=11) rfl,qfB h,zaa h⟩
def OuX (w:G) (base:Nat) (p:Pl) (v:N) (L U:List (Int×Int)) (vl vu a b:N) (W:G):Prop:=
 Ext w W∧w.heap.size+1+1<base∧base≤W.heap.size∧W.heap[w.heap.size+1]?=O (H la0 101 (0,0)) ∧
 W.heap[w.heap.size+1+1]?=O (H (lac p v a b) 101 (0,0))∧OwnC 33 2 W base vl (L.map pc)∧OwnC 33 2 W base vu (U.map pc)∧∀j,vl.ownBlock=O j→vu.ownBlock≠O j
theorem OuW.toX (h:OuW w base p v L U vl vu W):OuX w base p v L U vl vu vl vu W:=by
 obtain⟨a,b,c,i,d,h6,e,f,g⟩:=h;exact⟨a,b,c,d,h6,e,f,g⟩
theorem OuX.ext {a b:N} (h:OuX w base p v L U vl vu a b W) (k:Ext W w'):OuX w base p v L U vl vu a b w':=by
 obtain⟨c,d,e,f,h6,g,i,j⟩:=h;exact⟨c.trans k,d,nT e k.size,k.heapS f,k.heapS h6,g.ext k,i.ext k,j⟩
theorem OuX.low {c d:N} (h:OuX w base p v L U vl vu c d W) (a:W.grownBy w' vl.ownBlock) (u:OwnC 33 2 w' base vl' (L'.map pc)) (s:vl'.ownBlock=vl.ownBlock):OuX w base p v L' U vl' vu c d w':=by
 obtain⟨n,o,f,q,h6,g,r,i⟩:=h;have b:∀k,k<base→O k≠vl.ownBlock:=fun k l e=>by have:=(g.lt k e.symm).1;omega
 refine⟨n.thenB (zah a f (fun k l=>(g.lt k l).1)) oM,o,nT f a.size,zaj a q (b _ oM),zaj a h6 (b _ oM),u,r.grown a ?_,fun j t=>i j (s▸t)⟩
 cases e:vu.ownBlock with
 | none=>exact .inl rfl
 | some j=>exact .inr (fun m=>i j m.symm e)
theorem OuX.up {c d:N} (h:OuX w base p v L U vl vu c d W) (a:W.grownBy w' vu.ownBlock) (u:OwnC 33 2 w' base vu' (U'.map pc)) (s:vu'.ownBlock=vu.ownBlock):OuX w base p v L U' vl vu' c d w':=by
 obtain⟨n,o,f,q,h6,r,g,i⟩:=h;have b:∀k,k<base→O k≠vu.ownBlock:=fun k l e=>by have:=(g.lt k e.symm).1;omega
 refine⟨n.thenB (zah a f (fun k l=>(g.lt k l).1)) oM,o,nT f a.size,zaj a q (b _ oM),zaj a h6 (b _ oM),r.grown a ?_,u,fun j t=>s▸i j t⟩
 cases e:vl.ownBlock with
 | none=>exact .inl rfl
 | some j=>exact .inr (fun m=>i j e m.symm)
end
end
end Go.Proofs.YtodpfeaihohpjaaGreatDoor.Cop
