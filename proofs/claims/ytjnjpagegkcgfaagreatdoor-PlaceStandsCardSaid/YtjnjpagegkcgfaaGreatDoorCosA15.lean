/- Part 16. -/
import Derived.Test.YtjnjpagegkcgfaaGreatDoorCosA13
import Derived.Laws.StructEq
import Derived.Test.YtjnjpagegkcgfaaGreatDoorCosA14
import Derived.Test.YtjnjpagegkcgfaaGreatDoorCosA12
import Derived.Test.YtjnjpagegkcgfaaGreatDoorCosA11
set_option maxRecDepth 1000000
set_option maxHeartbeats 16000000
set_option linter.unusedSimpArgs false
set_option linter.unusedVariables false
open Option renaming some->O,none->J
open Go.Value renaming int->V,slice->F
open Go.IntKind renaming i64->I
open Go renaming Value->N,World->C
open Go.Obj renaming cells->G
namespace Go.Proofs.YtjnjpagegkcgfaaGreatDoor.Cop
section
open Go.RowKit Go.Shelf
def RetK(base:Nat)(w:C)(v:N)(a:LP)(e:Ending)(w':C):Prop:=∃v',e = .returned v'/\OwnC 43 2 w' base v' (a.map pc)/\w.grownBy w' v.ownBlock/\(v'.ownBlock=v.ownBlock)
def CkS(w:C)(base:Nat)(v:N)(ps:LP)(g:Nat)(t3:N)(W:C):Prop:=
 ∃m:Nat,m+1<=ps.length/\t3=V I ((m+1:Nat):Int)/\g=ps.length-(m+1)/\(∀(j:Nat)(a b:Int×Int),j+1<m+1->ps[j]?=O a->ps[j+1]?=O b->a≠b)/\OwnC 43 2 W base v (ps.map pc)/\w.grownBy W v.ownBlock
def CiL(ps:LP)(k a c:Nat)(b:LP):Prop:=
 b.length=ps.length/\1<=c/\c<=k+a/\k+a+1<=ps.length/\b.take c=compactP (ps.take (k+a+1))/\∀j,k+a<=j->b[j]?=ps[j]?
def CiS(w:C)(base:Nat)(v:N)(ps:LP)(k:Nat)(g:Nat)(t3 t5:N)(W:C):Prop:=
 ∃(a c:Nat)(b:LP),t5=V I ((a+1:Nat):Int)/\t3=V I (c:Int)/\g=ps.length-(a+1)/\CiL ps k a c b/\OwnC 43 2 W base v (b.map pc)/\w.grownBy W v.ownBlock
theorem ze3{α:Type}{xs:List α}{m:Nat}{a b:α}(c:xs[m]?=O a)(d:xs[m+1]?=O b):xs.take (m+2)=xs.take m++[a]++[b]:=by
 rw[zab _ _ _ d,zab _ _ _ c]
theorem CiL.start{ps:LP}{m:Nat}{a:Int×Int}(h:∀(j:Nat)(a b:Int×Int),j+1<m+1->ps[j]?=O a->ps[j+1]?=O b->a≠b)(e:ps[m]?=O a)(f:ps[m+1]?=O a):CiL ps (m+1) 0 (m+1) ps:=by
 have g:=(lS.1 f).1;refine⟨rfl,by omega,by omega,by omega,?_,fun _ _=>rfl⟩;rw[show m+1+0+1=m+2 by omega,ze3 e f,zaN,if_pos rfl,<-zab _ _ _ e,zbB];intro j x y d c;rw[List.getElem?_take]at d c
 split at c
 ·rename_i h2
  rw[if_pos oM]at d;exact h j x y h2 d c
 ·cases c
theorem CiL.same{ps e:LP}{k a c:Nat}{p:Int×Int}(h:CiL ps k a c e)(b:ps[k+a]?=O p)(d:ps[k+a+1]?=O p):CiL ps k (a+1) c e:=by
 obtain⟨f,g,l,m,i,h6⟩:=h;have o:=(lS.1 d).1;refine⟨f,g,by omega,by omega,?_,fun j n=>h6 j oM⟩;rw[i,show k+(a+1)+1=k+a+2 by omega,ze3 b d,zaN,if_pos rfl,<-zab _ _ _ b]
theorem CiL.other{ps d:LP}{k a c:Nat}{p q:Int×Int}(h:CiL ps k a c d)(e:ps[k+a]?=O p)(f:ps[k+a+1]?=O q)(b:p≠q):CiL ps k (a+1) (c+1) (d.set c q):=by
 obtain⟨g,l,m,n,i,h6⟩:=h;have r:=(lS.1 f).1;refine⟨by rw[List.length_set];exact g,by omega,by omega,by omega,?_,fun j o=>by rw[List.getElem?_set_ne oM];exact h6 j oM⟩;rw[show k+(a+1)+1=k+a+2 by omega,ze3 e f,zaN,if_neg b,<-zab _ _ _ e,<-i,zab _ _ _ (show (d.set c q)[c]?=O q by rw[List.getElem?_set_self oM]),List.take_set_of_le (nE _)]
theorem CiL.get{ps b:LP}{k a c:Nat}(h:CiL ps k a c b){j:Nat}(d:k+a<=j){q:Int×Int}(e:ps[j]?=O q):(b.map pc)[j]?=O (pc q):=by
 rw[lP,h.2.2.2.2.2 j d,e];rfl
theorem zdt(w:C)(base:Nat)(v:N)(ps:LP)(h:OwnC 43 2 w base v (ps.map pc))(aI:ps.length<=1000000) :
  Calls Tryz.prog 128 #[v] w (RetK base w v (compactP ps)):=by
 obtain⟨a,n,c,rfl⟩:=h.form3;have hl:=h.len;rw[lL]at hl;obtain⟨R,hR⟩:=gX (RetK base w (F a n c) (compactP ps));rw[hR];have HR:=hd9 hR;have r:Hid (ps.length=n):=hd9 hl.symm;clear hR
 by_cases h2:n<2
 ·have e:compactP ps=ps:=by
   apply zbB
   intro j x y hx hy;have:=(lS.1 hy).1;omega
  have E:=hd9 e;have aB:(n:Int)<2:=oM
  clear hl e h2;go_enter Tryz.func128,Tryz.ntmps128;go_wp2;rw[<-HR.out,E.out];exact⟨_,rfl,h,World.grownBy.refl _ _,rfl⟩
 ·obtain⟨g,rfl,aS,aT⟩:=h.blk (by rw[lL];omega)
  have aB:¬(n:Int)<2:=oM
  have aJ:n<=c:=by
   rcases h.2.2 with ⟨h9,_⟩|⟨g',cap,cur,hv,_,_,av,_⟩
   ·cases h9
   ·cases hv;rw[lL]at av;omega
  have aD:c<=9223372036854775807:=by
   rcases h.2.2 with ⟨h9,_⟩|⟨g',cap,cur,hv,_,_,av,aG,_⟩
   ·cases h9
   ·cases hv;unfold maxLen at aG;omega
  rw[<-hl]at aI;clear hl;go_enter Tryz.func128,Tryz.ntmps128;go_wp2
  go_loopg [3] (n-1) (CkS w base (F (O ⟨g,0,J⟩) n c) ps)
  case atStart=>exact⟨0,by rw[r.out];omega,rfl,by rw[r.out],fun j a b hj=>by omega,h,World.grownBy.refl _ _⟩
  case round =>
   clear h;obtain⟨m,hm,rfl,rfl,ac,f,Q⟩:=hrel;rw[r.out]at hm;have T:=hd9 ac;have aa:=hd9 f;have ae:=hd9 Q
   by_cases aU:m+1<n
   ·obtain⟨⟨x,z⟩,hq⟩:∃q,ps[m+1]?=O q:=⟨ps[m+1]'(by rw[r.out];omega),by simp⟩
    obtain⟨⟨x',z'⟩,af⟩:∃q,ps[m]?=O q:=⟨ps[m]'(by rw[r.out];omega),by simp⟩;have d0:=f.cell (i:=m+1) (j:=0) (d:=pc (x,z)) (by rw[lP,hq];rfl) rfl;have d1:=f.cell (i:=m+1) (j:=1) (d:=pc (x,z)) (by rw[lP,hq];rfl) rfl;have d2:=f.cell (i:=m) (j:=0) (d:=pc (x',z')) (by rw[lP,af];rfl) rfl;have d3:=f.cell (i:=m) (j:=1) (d:=pc (x',z')) (by rw[lP,af];rfl) rfl;simp only[Nat.add_zero]at d0 d2;dsimp only at d0 d1 d2 d3;have u1:((m+1:Nat):Int)-1=(m:Int):=oM
    have p1:(0:Int)<=(m:Int):=oM
    have p2:(m:Int)<(n:Int):=oM
    have p3:((m+1:Nat):Int)<(n:Int):=oM
    have Hq:=hd9 hq;have ak:=hd9 af;clear ac f Q hq af
    by_cases K:x=x'
    ·have f1:(x==x')=true:=by simpa using K
     by_cases e2:z=z'
     ·have f2:(z==z')=true:=by simpa using e2
      have ax:CiL ps (m+1) 0 (m+1) ps:=by subst K e2;exact CiL.start T.out ak.out Hq.out
      have ay:=hd9 ax;have p4:((m+1:Nat):Int)<=(n:Int):=oM
      have p5:(n:Int)<=(c:Int):=oM
      have p6:((m+1:Nat):Int)<(c:Int):=oM
      clear K e2 ax;go_wp2
      go_quiet (fail)
      clear d0 d1 d2 d3;go_wp2;obtain⟨L,hL⟩:=gX (n-(m+1));obtain⟨kk,an⟩:=gX ((m+1)*2);rw[hL,an];have ar:Hid (n-(m+1)=L/\(m+1)*2=kk):=hd9 ⟨hL,an⟩;have aP:L+m+1=n:=oM
      clear hL an;have ag:=zbV ae.out nq
      go_loopg [3,5] (n-1) (CiS w base (F (O ⟨g,0,J⟩) n c) ps (m+1))
      case atStart=>exact⟨0,m+1,ps,rfl,rfl,by rw[r.out],ay.out,aa.out,ag⟩
      case round =>
       clear ag;obtain⟨k,s,ys,rfl,rfl,rfl,hL,f,Q⟩:=hrel;have aC:=hL.2.2.2.1;rw[r.out]at aC;have aQ:=hL.2.2.1
       by_cases aO:k+1<L
       ·obtain⟨⟨qx,qz⟩,ap⟩:∃q,ps[m+1+k+1]?=O q:=⟨ps[m+1+k+1]'(by rw[r.out];omega),by simp⟩
        obtain⟨⟨px,pz⟩,ao⟩:∃q,ps[m+1+k]?=O q:=⟨ps[m+1+k]'(by rw[r.out];omega),by simp⟩;have gq:=hL.get oM ap;have gp:=hL.get oM ao;have d0:=f.cell (j:=0) gq rfl;have d1:=f.cell (j:=1) gq rfl;have d2:=f.cell (j:=0) gp rfl;have d3:=f.cell (j:=1) gp rfl;have a0:(m+1+k+1)*2+0=kk+(k+1)*2:=by have:=ar.out.2;omega
        have a1:(m+1+k+1)*2+1=kk+(k+1)*2+1:=oM
        have a2:(m+1+k)*2+0=kk+k*2:=by have:=ar.out.2;omega
        have a3:(m+1+k)*2+1=kk+k*2+1:=oM
        rw[a0]at d0;rw[a1]at d1;rw[a2]at d2;rw[a3]at d3;dsimp only at d0 d1 d2 d3;have aR:=f.frozen;have D:=hd9 f;have ab:=hd9 Q;have ah:=hd9 hL;have al:=hd9 ap;have aj:=hd9 ao;have u1:((k+1:Nat):Int)-1=(k:Int):=oM
        have aW:(0:Int)<=(k:Int):=oM
        have aX:(k:Int)<(L:Int):=oM
        have aY:((k+1:Nat):Int)<(L:Int):=oM
        have aE:s<n:=oM
        have aL:(s:Int)<(n:Int):=oM
        have aK:(0:Int)<=(s:Int):=oM
        obtain⟨⟨rx,rz⟩,hr⟩:∃q,ys[s]?=O q:=⟨ys[s]'(by rw[hL.1,r.out];exact aE),by simp⟩;have gr:(ys.map pc)[s]?=O (pc (rx,rz)):=by rw[lP,hr];rfl
        have d4:=f.cell (j:=0) gr rfl;have d5:=f.cell (j:=1) gr rfl;simp only[Nat.add_zero]at d4;dsimp only at d4 d5;have aq:=hd9 gr;clear f Q hL ap ao gq gp a0 a1 a2 a3 gr hr
        by_cases K:qx=px
        ·have g1:(qx != px)=false:=by simpa using K
         have az:(qx==px)=true:=by simpa using K
         by_cases e2:qz=pz
         ·have g2:(qz != pz)=false:=by simpa using e2
          have aA:(qz==pz)=true:=by simpa using e2
          have l:CiL ps (m+1) (k+1) s ys:=by subst K e2;exact ah.out.same aj.out al.out
          have u:=hd9 l;clear K e2 l;go_wp2
          go_quiet (fail)
          go_wp2
          go_roundg (n-(k+1+1))
          case measure=>have:=r.out;omega
          case rel=>exact⟨k+1,s,ys,by go_num,rfl,by rw[r.out],u.out,D.out,zbV ab.out _⟩
         ·have g2:(qz != pz)=true:=by simpa using e2
          have aA:(qz==pz)=false:=by simpa using e2
          have l:CiL ps (m+1) (k+1) (s+1) (ys.set s (qx,qz)):=ah.out.other aj.out al.out (by simp;omega);have u:=hd9 l;clear K e2 l;go_wp2
          go_quiet (fail)
          go_wp2
          go_roundg (n-(k+1+1))
          case measure=>have:=r.out;omega
          case rel =>
           refine⟨k+1,s+1,ys.set s (qx,qz),by go_num,by go_num,by rw[r.out],u.out,?_,zcZ (zcZ (zbV ab.out _) _ _) _ _⟩;rw[<-zbX];exact OwnC.pair (D.out.ext ((eR _).drewN _)) aq.out _ _
        ·have g1:(qx != px)=true:=by simpa using K
         have az:(qx==px)=false:=by simpa using K
         have l:CiL ps (m+1) (k+1) (s+1) (ys.set s (qx,qz)):=ah.out.other aj.out al.out (by simp;omega);have u:=hd9 l;clear K l;go_wp2
         go_quiet (fail)
         go_wp2
         go_roundg (n-(k+1+1))
         case measure=>have:=r.out;omega
         case rel =>
          refine⟨k+1,s+1,ys.set s (qx,qz),by go_num,by go_num,by rw[r.out],u.out,?_,zcZ (zcZ (zbV ab.out _) _ _) _ _⟩;rw[<-zbX];exact OwnC.pair (D.out.ext ((eR _).drewN _)) aq.out _ _
       ·have aV:m+1+k+1=n:=oM
        have aF:(ys.take s)=compactP ps:=by rw[hL.2.2.2.2.1,lT (by rw[r.out];omega)]
        have au:s<n:=oM
        obtain⟨wc,aM,aw,aH⟩:=zie (P:=Tryz.prog) (t:=121) (z:=.agg #[V I 0,V I 0]) (w:=wr) (o:=s*2) (c2:=c-s) (fun w=>Tryz.zeroValue43 w) rfl (by simp[Value.cells];rfl) Tryz.underlying121 f au rfl;have c1:(0:Int)<=(s:Int):=oM
        have c2:(s:Int)<=(n:Int):=oM
        have c3:(n:Int)<=(c:Int):=oM
        have c4:(s:Int)<(c:Int):=oM
        have c5:s<c:=oM
        go_wp2;rw[<-HR.out];refine⟨_,rfl,?_,Q.trans aH,rfl⟩;rw[<-List.map_take,aF]at aw;exact aw
     ·have f2:(z==z')=false:=by simpa using e2
      have ad:((x',z'):Int×Int)≠(x,z):=by simp;omega
      have ai:=hd9 ad;clear K e2 ad;go_wp2
      go_quiet (fail)
      go_wp2
      go_roundg (n-(m+1+1))
      case measure=>have:=r.out;omega
      case rel =>
       refine⟨m+1,by have:=r.out;omega,by go_num,by rw[r.out],fun j a b hj ha hb=>?_,aa.out,zbV ae.out _⟩
       by_cases am:j=m
       ·subst am;rw[ak.out]at ha;rw[Hq.out]at hb;cases ha;cases hb;exact ai.out
       ·exact T.out j a b oM ha hb
    ·have f1:(x==x')=false:=by simpa using K
     have ad:((x',z'):Int×Int)≠(x,z):=by simp;omega
     have ai:=hd9 ad;clear K ad;go_wp2
     go_quiet (fail)
     go_wp2
     go_roundg (n-(m+1+1))
     case measure=>have:=r.out;omega
     case rel =>
      refine⟨m+1,by have:=r.out;omega,by go_num,by rw[r.out],fun j a b hj ha hb=>?_,aa.out,zbV ae.out _⟩
      by_cases am:j=m
      ·subst am;rw[ak.out]at ha;rw[Hq.out]at hb;cases ha;cases hb;exact ai.out
      ·exact T.out j a b oM ha hb
   ·have e:compactP ps=ps:=zbB ps (fun j a b ha hb=>T.out j a b (by have:=(lS.1 hb).1;rw[r.out]at this;omega) ha hb)
    have E:=hd9 e;have p3:¬((m+1:Nat):Int)<(n:Int):=oM
    clear e ac f Q;go_wp2;rw[<-HR.out,E.out];exact⟨_,rfl,aa.out,ae.out,rfl⟩
def cornersP(p:Pl):LP:=(turnedP p.way p.shape).map fun q=>(q.1+p.ax,q.2+p.az)
theorem zda{ps:LP}(h:ps≠[]):(settledP ps).length=ps.length:=by
 have:=(zeO h).2;unfold settledP;simp;omega
theorem zcp{way:Int}{ps:LP}(h:ps≠[]):(turnedP way ps).length=ps.length:=by
 unfold turnedP
 split
 ·rw[zda (by simpa using h)];simp
 ·rw[zda (by simpa using h)];simp
theorem zd3{k:Int}{ps:LP}(h:PBd k ps)(c:ps≠[]):PBd (k+k) (settledP ps):=fun p d=>by
 obtain⟨q,e,rfl⟩:=List.mem_map.1 d;have a:=h.rot (idxN ps) q e;have b:=zfv h c;exact⟨a.1.sub b.1,a.2.sub b.2⟩
theorem zeG{k way:Int}{ps:LP}(h:PBd k ps)(a:ps≠[]):PBd (k+k) (turnedP way ps):=by
 unfold turnedP
 split
 ·exact zd3 h.way.rev (by simpa using a)
 ·exact zd3 h.way (by simpa using a)
theorem zbw{p:Pl}(h:placedOk p=true):stoneB (namedB p.name) p.shape p.depth p.density p.gx p.gz=true/\0<=p.way/\p.way<=7/\Bd 100000 p.ax/\Bd 100000 p.az/\1<=p.skin/\p.skin<=3:=by
 unfold placedOk pfarB wthn at h;simp at h;unfold Bd;refine⟨h.1,?_⟩;omega
theorem zaK{p:Pl}(h:placedOk p=true):PBd 104000 (cornersP p)/\3<=(cornersP p).length/\(cornersP p).length<=12:=by
 obtain⟨g,_,_,i,j,_⟩:=zbw h;obtain⟨b,h12,c,_⟩:=zbU g;have a:p.shape≠[]:=by intro e;rw[e]at b;simp at b
 refine⟨fun q d=>?_,?_,?_⟩
 ·obtain⟨r,f,rfl⟩:=List.mem_map.1 d
  have:=zeG (way:=p.way) c a r f;unfold Bd at *;dsimp only;omega
 ·unfold cornersP;rw[lL,zcp a];exact b
 ·unfold cornersP;rw[lL,zcp a];exact h12
theorem zdv(w:C)(p:Pl)(v:N)(h:IsPts w v p.shape)(ao:placedOk p=true)(hg:Gw w) :
  Calls Tryz.prog 84 #[.agg (plc p v)] w (RetC 43 2 w ((cornersP p).map pc)):=by
 obtain⟨a,c,rfl⟩:=h.form;obtain⟨hB,ar,au,al,am,_,_⟩:=zbw ao;obtain⟨h3,h12,ad,_⟩:=zbU hB;obtain⟨nm,ps,d,de,gx,gz,wy,r,s,sk⟩:=p;dsimp only at h hB ar au al am h3 h12 ad;have Q:ps≠[]:=by intro e;rw[e]at h3;simp at h3
 have x:=fun W (hW:Ext w W)=>zix W nm _ ps d de gx gz wy (h.ext' hW) hB ar au (hg.ext hW)
 obtain⟨K,ag⟩:=gX (turnedP wy ps);have ab:=zcp (way:=wy) Q;have af:=zeG (way:=wy) ad Q;have hR:(cornersP ⟨nm,ps,d,de,gx,gz,wy,r,s,sk⟩)=K.map fun q=>(q.1+r,q.2+s):=by unfold cornersP;rw[<-ag]
 rw[hR];rw[ag]at x ab af;obtain⟨g2,an⟩:=gX (wayP wy (gx,gz));rw[an]at x;obtain⟨n,hn⟩:=gX ps.length;rw[hn]at h x ab h3 h12 ⊢;obtain⟨RL,ac⟩:=gX ((K.map (fun q=>(q.1+r,q.2+s))).map pc);rw[ac];have ay:=hd9 ac;clear ac;have aA:=hd9 x;have aB:=hd9 af;have l:=hd9 ab;obtain⟨aI,aJ⟩:=al;obtain⟨aK,aL⟩:=am;clear x af ab ag an hn hB ad Q hR ao;unfold plc;dsimp only;go_enter Tryz.func84,Tryz.ntmps84
 go_wp2_with(first|((go_at_call 153;(with_reducible refine(aA.out _ ?_).mono ?_);exact eA;rintro e w1 ⟨v1,rfl,R,ai⟩;obtain⟨a1,n1,c1,rfl⟩:=R.form3;obtain rfl:n=n1:=(by have h9:=R.len;rw[lL,l.out]at h9;exact h9.symm);obtain⟨⟨aD,aE⟩,aw⟩:=cK1 w ai))|((at_make;refine mkC (T:=43) (t:=38) (z:=.agg #[V I 0,V I 0]) (k:=2) (bytes:=16) (zs:=[V I 0,V I 0]) zbE rfl rfl dM Tryz.underlying38 rfl _ _ rfl _ rfl rfl rfl oM ?_;intro cs m;simp only[wZ]at m))|((refine cpC (T:=43) (t:=38) (k:=2) (g:=w1.heap.size+1) (n:=n) (cap:=n) (sl:=F a1 n c1) (os:=List.replicate n [V I 0,V I 0]) kM Tryz.underlying38 rfl _ _ rfl rfl rfl m (K.map pc) zfD (R.rd.ext ?_) ?_ ?_ zfE ?_;exact eA;(simp[l.out]);(simp[l.out];omega);intro w3 o y)))
 obtain⟨P,ae⟩:=gX (w1.heap.size+1);rw[ae]at o y ⊢;have av:Ext w w1:=eA;have aF:=av.size;have P0:=ai.heapS (qhA _ _ _ rfl);have P1:=((eR w1).alloc (G #[.string nm,F a1 n c1,V I d,V I de,V I g2.1,V I g2.2] 45)).heapS P0;have P2:=((eR _).alloc (G cs 43)).heapS P1;have zw:w.heap.size<w1.heap.size:=zaa P0;have P3:=zah y P2 (fun e=>by cases e;omega);have X3:Ext w w3:=((av.alloc _).alloc _).thenB (zad y (by simp;omega) (fun k hk=>by cases hk;exact nE _)) (by omega:w.heap.size<=P);have ap:=y.size;simp only[wZ]at ap;have D:=o.mono (b':=P) (by simp[ae]);have aq:P<=w3.heap.size:=oM
 have aS:w.heap.size<P:=oM
 have ak:=hd9 P3;clear aD aE aw R ai m o y P0 P1 P2 P3 ae ap aF zw
 go_loopg [25] n (fun g aH W=>MpS w P (fun q=>(q.1+r,q.2+s)) K (F (O ⟨P,0,J⟩) n n) g aH W/\W.heap[w.heap.size]?=O (G #[.string nm,F a n c,V I d,V I de,V I gx,V I gz,V I wy,V I r,V I s,V .u8 sk] 47 (0,0)))
 case atStart=>exact⟨⟨0,by omega,rfl,by rw[l.out];rfl,X3,aq,by simpa using D⟩,ak.out⟩
 case round =>
  clear X3 aq D ak;obtain⟨⟨i,hi,rfl,rfl,hx,aG,b⟩,hP⟩:=hrel;rw[l.out]at hi
  by_cases aR:i<n
  ·obtain⟨⟨qx,qz⟩,hq⟩:∃q,K[i]?=O q:=⟨K[i]'(by rw[l.out];omega),by simp⟩
   have aa:=zmo (f:=fun q=>(q.1+r,q.2+s)) hq;have d0:=b.cell (j:=0) aa rfl;have d1:=b.cell (j:=1) aa rfl;simp only[Nat.add_zero]at d0;dsimp only at d0 d1;have f0:=b.frozen;obtain⟨⟨b1,b2⟩,b3,b4⟩:=aB.out (qx,qz) (lM hq);have aM:(-4000:Int)<=qx:=by simpa using b1
   have aO:qx<=4000:=by simpa using b2
   have aP:(-4000:Int)<=qz:=by simpa using b3
   have aQ:qz<=4000:=by simpa using b4
   have p7:=qcB hP (i:=7) (u:=V I r) rfl;have p8:=qcB hP (i:=8) (u:=V I s) rfl;have ah:=fun(W:C)(h:OwnC 43 2 W P (F (O ⟨P,0,J⟩) n n) (((K.take i).map (fun q=>(q.1+r,q.2+s))++K.drop i).map pc))=>h.pair aa (V I (qx+r)) (V I (qz+s))
   rw[zmp (f:=fun q=>(q.1+r,q.2+s)) hq rfl _ rfl]at ah;have aC:=hd9 ah;have aj:=hd9 b;have HP:=hd9 hP;have zg:=(b.lt P rfl).2;have Q:¬P=w.heap.size:=oM
   have p1:(0:Int)<=(i:Int):=oM
   have p2:(i:Int)<(n:Int):=oM
   clear ah aa hq b hP b1 b2 b3 b4;go_wp2
   go_region_with fail
   all_goals go_wp2
   all_goals go_region_with fail
   all_goals go_wp2
   all_goals
    go_roundg (n-(i+1))
    case measure=>have:=l.out;omega
    case rel =>
     refine⟨⟨i+1,by have:=l.out;omega,by go_num,by rw[l.out],eA,by simp only[qcZ,qdZ];exact aG,?_⟩,?_⟩
     ·exact aC.out _ aj.out
     ·show ((wr.setCell _ _).setCell _ _).heap[_]?=_
      rw[bS _ _ _ _ dO,bS _ _ _ _ dO];exact HP.out
  ·obtain rfl:i=n:=oM
   have e:((K.take i).map (fun q=>(q.1+r,q.2+s))++K.drop i)=K.map (fun q=>(q.1+r,q.2+s)):=by
    rw[lT (by rw[l.out];exact nE _),List.drop_of_length_le (by rw[l.out];exact nE _),List.append_nil]
   rw[e,ay.out]at b;go_wp2;go_ret;exact⟨_,rfl,b.mono oM,hx⟩
def edgeLow(cs:LP)(i:Nat):LP:=if (cs.getD i (0,0)).1<(cs.getD ((i+1) % cs.length) (0,0)).1 then [cs.getD i (0,0),cs.getD ((i+1) % cs.length) (0,0)]else []
def edgeUp(cs:LP)(i:Nat):LP:=if (cs.getD ((i+1) % cs.length) (0,0)).1<(cs.getD i (0,0)).1 then [cs.getD i (0,0),cs.getD ((i+1) % cs.length) (0,0)]else []
def lowRaw(cs:LP)(i:Nat):LP:=(List.range i).flatMap (edgeLow cs)
def upRaw(cs:LP)(i:Nat):LP:=(List.range i).flatMap (edgeUp cs)
theorem zbG(cs:LP)(i:Nat):lowRaw cs (i+1)=lowRaw cs i++edgeLow cs i:=by simp[lowRaw,List.range_succ]
theorem zcc(cs:LP)(i:Nat):upRaw cs (i+1)=upRaw cs i++edgeUp cs i:=by simp[upRaw,List.range_succ]
theorem zgN{cs:LP}{i:Nat}(h:i<cs.length):∀q∈edgeLow cs i++edgeUp cs i,q∈cs:=by
 have b:cs.getD i (0,0)∈cs:=by rw[gD,gE h];exact List.getElem_mem h
 have c:cs.getD ((i+1) % cs.length) (0,0)∈cs:=by
  have:(i+1) % cs.length<cs.length:=Nat.mod_lt _ oM;rw[gD,gE this];exact List.getElem_mem this
 intro q a;unfold edgeLow edgeUp at a
 rcases List.mem_append.1 a with a|a
 ·split at a
  ·simp at a;rcases a with rfl|rfl
   ·simpa using b
   ·simpa using c
  ·simp at a
 ·split at a
  ·simp at a;rcases a with rfl|rfl
   ·simpa using b
   ·simpa using c
  ·simp at a
theorem zfJ{k:Int}{cs:LP}(h:PBd k cs){i:Nat}(c:i<=cs.length):PBd k (lowRaw cs i)/\PBd k (upRaw cs i):=by
 refine⟨fun q a=>?_,fun q a=>?_⟩
 ·obtain⟨j,b,a⟩:=List.mem_flatMap.1 a
  exact h q (zgN (by have:=List.mem_range.1 b;omega) q (List.mem_append_left _ a))
 ·obtain⟨j,b,a⟩:=List.mem_flatMap.1 a
  exact h q (zgN (by have:=List.mem_range.1 b;omega) q (List.mem_append_right _ a))
theorem zj6(cs:LP)(i:Nat):(lowRaw cs i).length<=2*i/\(upRaw cs i).length<=2*i:=by
 induction i with
 | zero=>exact⟨by simp[lowRaw],by simp[upRaw]⟩
 | succ i c =>
  rw[zbG,zcc,lA,lA];have a:(edgeLow cs i).length<=2:=by unfold edgeLow;split<;>simp
  have b:(edgeUp cs i).length<=2:=by unfold edgeUp;split<;>simp
  omega
def lineOf(a:LP):LP:=compactP (sortX a)
def lowP2(p:Pl):LP:=lineOf (lowRaw (cornersP p) (cornersP p).length)
def upP2(p:Pl):LP:=lineOf (upRaw (cornersP p) (cornersP p).length)
def lac(p:Pl)(v vl vu:N):Array N:=#[.string p.name,v,V I p.depth,V I p.density,V I p.gx,V I p.gz,V I p.way,V I p.ax,V I p.az,V .u8 p.skin,vl,vu]
def la0:Array N:=#[.string ⟨#[]⟩,F J 0 0,V I 0,V I 0,V I 0,V I 0,V I 0,V I 0,V I 0,V .u8 0,F J 0 0,F J 0 0]
def RetO(w:C)(p:Pl)(v:N)(e:Ending)(w':C):Prop:=∃vl vu,e = .returned (.agg (lac p v vl vu))/\IsPts w' vl (lowP2 p)/\IsPts w' vu (upP2 p)/\Ext w w'
def OuW(w:C)(base:Nat)(p:Pl)(v:N)(L U:LP)(vl vu:N)(W:C):Prop:=
 Ext w W/\w.heap.size+1+1<base/\base<=W.heap.size/\W.heap[w.heap.size]?=O (G (plc p v) 47 (0,0))/\W.heap[w.heap.size+1]?=O (G la0 128 (0,0)) /\
 W.heap[w.heap.size+1+1]?=O (G (lac p v vl vu) 128 (0,0))/\OwnC 43 2 W base vl (L.map pc)/\OwnC 43 2 W base vu (U.map pc)/\∀j,vl.ownBlock=O j->vu.ownBlock≠O j
section
variable {w W w':C} {base:Nat} {p:Pl} {v vl vu vl' vu':N} {L U L' U':LP}
theorem OuW.ext(h:OuW w base p v L U vl vu W)(k:Ext W w'):OuW w base p v L U vl vu w':=by
 obtain⟨a,b,c,d,e,h6,f,g,i⟩:=h;exact⟨a.trans k,b,nT c k.size,k.heapS d,k.heapS e,k.heapS h6,f.ext k,g.ext k,i⟩
theorem OuW.low(h:OuW w base p v L U vl vu W)(b:W.grownBy w' vl.ownBlock)(r:OwnC 43 2 w' base vl (L'.map pc)):OuW w base p v L' U vl vu w':=by
 obtain⟨l,m,c,n,o,h6,d,q,f⟩:=h;have a:∀k,k<base->O k≠vl.ownBlock:=fun k g e=>by have:=(d.lt k e.symm).1;omega
 refine⟨l.thenB (zad b c (fun k g=>(d.lt k g).1)) oM,m,nT c b.size,zah b n (a _ oM),zah b o (a _ oM),zah b h6 (a _ oM),r,q.grown b ?_,f⟩
 cases e:vu.ownBlock with
 | none=>exact .inl rfl
 | some j=>exact .inr (fun i=>f j i.symm e)
theorem OuW.up(h:OuW w base p v L U vl vu W)(b:W.grownBy w' vu.ownBlock)(r:OwnC 43 2 w' base vu (U'.map pc)):OuW w base p v L U' vl vu w':=by
 obtain⟨l,m,c,n,o,h6,q,d,f⟩:=h;have a:∀k,k<base->O k≠vu.ownBlock:=fun k g e=>by have:=(d.lt k e.symm).1;omega
 refine⟨l.thenB (zad b c (fun k g=>(d.lt k g).1)) oM,m,nT c b.size,zah b n (a _ oM),zah b o (a _ oM),zah b h6 (a _ oM),q.grown b ?_,r,f⟩
 cases e:vl.ownBlock with
 | none=>exact .inl rfl
 | some j=>exact .inr (fun i=>f j e i.symm)
theorem zjw{W:C}{b:Nat}(h:W.heap[b]?=O (G (lac p v vl vu) 128 (0,0)))(u:N):(W.setCell ⟨b,10,J⟩ u).heap[b]?=O (G (lac p v u vu) 128 (0,0)):=by
 simp[World.setCell,Array.getElem?_modify,h,lac]
theorem zjx{W:C}{b:Nat}(h:W.heap[b]?=O (G (lac p v vl vu) 128 (0,0)))(u:N):(W.setCell ⟨b,11,J⟩ u).heap[b]?=O (G (lac p v vl u) 128 (0,0)):=by
 simp[World.setCell,Array.getElem?_modify,h,lac]
theorem OuW.setLow(h:OuW w base p v L U vl vu W)(b:W.grownBy w' vl.ownBlock)(f:OwnC 43 2 w' base vl' (L'.map pc))(D:vl'.ownBlock=vl.ownBlock\/vl'.ownBlock=O W.heap.size) :
  OuW w base p v L' U vl' vu (w'.setCell ⟨w.heap.size+1+1,10,J⟩ vl'):=by
 obtain⟨s,t,i,x,y,h6,l,m,n⟩:=h;have a:∀k,k<base->O k≠vl.ownBlock:=fun k o e=>by have:=(l.lt k e.symm).1;omega
 have z:=zad b i (fun k o=>(l.lt k o).1);have d:∀{u:N}{q:List (List N)}{W:C},OwnC 43 2 W base u q->u.ownBlock≠O (w.heap.size+1+1):=fun f e=>by have:=(f.lt _ e).1;omega
 have c:OwnC 43 2 w' base vu (U.map pc):=m.grown b (by
  cases e:vu.ownBlock with
  | none=>exact .inl rfl
  | some j=>exact .inr (fun r=>n j r.symm e))
 refine⟨(s.thenB z oM).set dO _,t,by rw[qcZ];exact nT i b.size,?_,?_,zjw (zah b h6 (a _ oM)) _,f.setOther (d f) _,c.setOther (d c) _,?_⟩
 ·rw[bS _ _ _ _ dO];exact zah b x (a _ oM)
 ·rw[bS _ _ _ _ dO];exact zah b y (a _ oM)
 ·intro j g e
  rcases D with h|h
  ·exact n j (h▸g) e
  ·rw[h]at g
   cases g
   have:=(m.lt _ e).2;omega
theorem OuW.setUp(h:OuW w base p v L U vl vu W)(b:W.grownBy w' vu.ownBlock)(f:OwnC 43 2 w' base vu' (U'.map pc))(D:vu'.ownBlock=vu.ownBlock\/vu'.ownBlock=O W.heap.size) :
  OuW w base p v L U' vl vu' (w'.setCell ⟨w.heap.size+1+1,11,J⟩ vu'):=by
 obtain⟨s,t,g,x,y,h6,i,l,m⟩:=h;have a:∀k,k<base->O k≠vu.ownBlock:=fun k o e=>by have:=(l.lt k e.symm).1;omega
 have z:=zad b g (fun k o=>(l.lt k o).1);have d:∀{u:N}{q:List (List N)}{W:C},OwnC 43 2 W base u q->u.ownBlock≠O (w.heap.size+1+1):=fun f e=>by have:=(f.lt _ e).1;omega
 have c:OwnC 43 2 w' base vl (L.map pc):=i.grown b (by
  cases e:vl.ownBlock with
  | none=>exact .inl rfl
  | some j=>exact .inr (fun r=>m j e r.symm))
 refine⟨(s.thenB z oM).set dO _,t,by rw[qcZ];exact nT g b.size,?_,?_,zjx (zah b h6 (a _ oM)) _,c.setOther (d c) _,f.setOther (d f) _,?_⟩
 ·rw[bS _ _ _ _ dO];exact zah b x (a _ oM)
 ·rw[bS _ _ _ _ dO];exact zah b y (a _ oM)
 ·intro j n e
  rcases D with h|h
  ·exact m j n (h▸e)
  ·rw[h]at e
   cases e
   have:=(i.lt _ n).2;omega
theorem zn9{W:C}{b:Nat}(h:W.heap[b]?=O (G (lac p v vl vu) 128 (0,0))) :
  W.cell? ⟨b,0,J⟩=O (.string p.name)/\W.cell? ⟨b,1,J⟩=O v/\W.cell? ⟨b,2,J⟩=O (V I p.depth)/\W.cell? ⟨b,3,J⟩=O (V I p.density)/\W.cell? ⟨b,4,J⟩=O (V I p.gx)/\W.cell? ⟨b,5,J⟩=O (V I p.gz) /\
  W.cell? ⟨b,6,J⟩=O (V I p.way)/\W.cell? ⟨b,7,J⟩=O (V I p.ax)/\W.cell? ⟨b,8,J⟩=O (V I p.az)/\W.cell? ⟨b,9,J⟩=O (V .u8 p.skin)/\W.cell? ⟨b,10,J⟩=O vl/\W.cell? ⟨b,11,J⟩=O vu/\(∀i,W.frozen? ⟨b,i,J⟩=false)/\b<W.heap.size:=
 ⟨qcB h (i:=0) rfl,qcB h (i:=1) rfl,qcB h (i:=2) rfl,qcB h (i:=3) rfl,qcB h (i:=4) rfl,qcB h (i:=5) rfl,qcB h (i:=6) rfl,qcB h (i:=7) rfl,qcB h (i:=8) rfl,qcB h (i:=9) rfl,qcB h (i:=10) rfl,qcB h (i:=11) rfl,qfB h,zaa h⟩
theorem zn8{W:C}{b:Nat}(h:W.heap[b]?=O (G la0 128 (0,0))) :
  W.cell? ⟨b,0,J⟩=O (.string ⟨#[]⟩)/\W.cell? ⟨b,1,J⟩=O (F J 0 0)/\W.cell? ⟨b,2,J⟩=O (V I 0)/\W.cell? ⟨b,3,J⟩=O (V I 0)/\W.cell? ⟨b,4,J⟩=O (V I 0)/\W.cell? ⟨b,5,J⟩=O (V I 0) /\
  W.cell? ⟨b,6,J⟩=O (V I 0)/\W.cell? ⟨b,7,J⟩=O (V I 0)/\W.cell? ⟨b,8,J⟩=O (V I 0)/\W.cell? ⟨b,9,J⟩=O (V .u8 0)/\W.cell? ⟨b,10,J⟩=O (F J 0 0)/\W.cell? ⟨b,11,J⟩=O (F J 0 0)/\(∀i,W.frozen? ⟨b,i,J⟩=false)/\b<W.heap.size:=
 ⟨qcB h (i:=0) rfl,qcB h (i:=1) rfl,qcB h (i:=2) rfl,qcB h (i:=3) rfl,qcB h (i:=4) rfl,qcB h (i:=5) rfl,qcB h (i:=6) rfl,qcB h (i:=7) rfl,qcB h (i:=8) rfl,qcB h (i:=9) rfl,qcB h (i:=10) rfl,qcB h (i:=11) rfl,qfB h,zaa h⟩
def OuX(w:C)(base:Nat)(p:Pl)(v:N)(L U:LP)(vl vu a b:N)(W:C):Prop:=
 Ext w W/\w.heap.size+1+1<base/\base<=W.heap.size/\W.heap[w.heap.size+1]?=O (G la0 128 (0,0)) /\
 W.heap[w.heap.size+1+1]?=O (G (lac p v a b) 128 (0,0))/\OwnC 43 2 W base vl (L.map pc)/\OwnC 43 2 W base vu (U.map pc)/\∀j,vl.ownBlock=O j->vu.ownBlock≠O j
theorem OuW.toX(h:OuW w base p v L U vl vu W):OuX w base p v L U vl vu vl vu W:=by
 obtain⟨a,b,c,i,d,h6,e,f,g⟩:=h;exact⟨a,b,c,d,h6,e,f,g⟩
theorem OuX.ext{a b:N}(h:OuX w base p v L U vl vu a b W)(k:Ext W w'):OuX w base p v L U vl vu a b w':=by
 obtain⟨c,d,e,f,h6,g,i,j⟩:=h;exact⟨c.trans k,d,nT e k.size,k.heapS f,k.heapS h6,g.ext k,i.ext k,j⟩
theorem OuX.low{c d:N}(h:OuX w base p v L U vl vu c d W)(a:W.grownBy w' vl.ownBlock)(u:OwnC 43 2 w' base vl' (L'.map pc))(s:vl'.ownBlock=vl.ownBlock):OuX w base p v L' U vl' vu c d w':=by
 obtain⟨n,o,f,q,h6,g,r,i⟩:=h;have b:∀k,k<base->O k≠vl.ownBlock:=fun k l e=>by have:=(g.lt k e.symm).1;omega
 refine⟨n.thenB (zad a f (fun k l=>(g.lt k l).1)) oM,o,nT f a.size,zah a q (b _ oM),zah a h6 (b _ oM),u,r.grown a ?_,fun j t=>i j (s▸t)⟩
 cases e:vu.ownBlock with
 | none=>exact .inl rfl
 | some j=>exact .inr (fun m=>i j m.symm e)
theorem OuX.up{c d:N}(h:OuX w base p v L U vl vu c d W)(a:W.grownBy w' vu.ownBlock)(u:OwnC 43 2 w' base vu' (U'.map pc))(s:vu'.ownBlock=vu.ownBlock):OuX w base p v L U' vl vu' c d w':=by
 obtain⟨n,o,f,q,h6,r,g,i⟩:=h;have b:∀k,k<base->O k≠vu.ownBlock:=fun k l e=>by have:=(g.lt k e.symm).1;omega
 refine⟨n.thenB (zad a f (fun k l=>(g.lt k l).1)) oM,o,nT f a.size,zah a q (b _ oM),zah a h6 (b _ oM),r.grown a ?_,u,fun j t=>s▸i j t⟩
 cases e:vl.ownBlock with
 | none=>exact .inl rfl
 | some j=>exact .inr (fun m=>i j e m.symm)
end
end
section
open Go.RowKit Go.Shelf
def sideR(p q r:Int×Int):Int:=(q.1-p.1)*(r.2-p.2)-(q.2-p.2)*(r.1-p.1)
theorem zlH(p q r:Int×Int):sideR p q r=trn p q r:=by
 unfold sideR trn
 grind
def ptN(l:LP)(i:Nat):Int×Int:=l.getD i (0,0)
def cvxK(l:LP)(i k:Nat):Bool:=(k==i) || ((k==(i+1) % l.length) || decide (0<sideR (ptN l i) (ptN l ((i+1) % l.length)) (ptN l k)))
def cvxI(l:LP)(i:Nat):Bool:=(List.range l.length).all (cvxK l i)
def convR(l:LP):Bool:=wthn l.length 3 12&&(List.range l.length).all (cvxI l)
theorem mod2{a n:Nat}(h:a<2*n):a % n=if a<n then a else a-n:=by
 split
 ·exact Nat.mod_eq_of_lt (by assumption)
 ·rw[Nat.mod_eq_sub_mod oM]
  exact Nat.mod_eq_of_lt oM
theorem zdo(l:LP)(i:Nat):atc l (i:Int)=ptN l (i % l.length):=by
 unfold atc ptN
 have e:((i:Int)+(l.length:Int)) % (l.length:Int)=((i % l.length:Nat):Int):=by
  rw[Int.add_emod_right];rfl
 rw[e];rfl
theorem zmI(l:LP)(i:Nat)(h:0<l.length):atc l ((i:Int)-1)=ptN l ((i+l.length-1) % l.length):=by
 unfold atc ptN
 have e:((i:Int)-1+(l.length:Int)) % (l.length:Int)=(((i+l.length-1) % l.length:Nat):Int):=by
  rw[show (i:Int)-1+(l.length:Int)=((i+l.length-1:Nat):Int) by omega];rfl
 rw[e];rfl
theorem zhu(u v c:Int×Int):trn u v c=trn c u v:=by
 unfold trn
 grind
theorem zmP(l:LP):convR l=convexB l:=by
 unfold convR convexB
 cases hw:wthn l.length 3 12 with
 | false=>rfl
 | true =>
  rw[Bool.true_and,Bool.true_and,Bool.eq_iff_iff,List.all_eq_true,List.all_eq_true];obtain⟨n,g⟩:=gX l.length
  have P:3<=n:=by
   unfold wthn at hw;simp at hw;omega
  have key:∀i k,cvxK l i k=true ↔ (k=i\/k=(i+1) % n\/0<trn (ptN l i) (ptN l ((i+1) % n)) (ptN l k)):=fun i k=>by
   unfold cvxK;rw[g,zlH];simp
  have x:∀i,cvx1 l i=true ↔ 0<trn (ptN l ((i+n-1) % n)) (ptN l (i % n)) (ptN l ((i+1) % n)):=fun i=>by
   unfold cvx1;rw[zmI l i oM,zdo,show (i:Int)+1=((i+1:Nat):Int) by omega,zdo,g,decide_eq_true_eq]
  have y:∀i k,cvx2 l i k=true ↔ 0<trn (ptN l (i % n)) (ptN l ((i+1) % n)) (ptN l ((i+k) % n)):=fun i k=>by
   unfold cvx2;rw[zdo,show (i:Int)+1=((i+1:Nat):Int) by omega,zdo,show (i:Int)+(k:Int)=((i+k:Nat):Int) by omega,zdo,g,decide_eq_true_eq]
  constructor
  ·intro h i m
   have f:i<n:=by rw[<-g];exact List.mem_range.1 m
   have j:=h i m;unfold cvxI at j;rw[List.all_eq_true]at j
   have t:∀k,k<n->k≠i->k≠(i+1) % n->0<trn (ptN l i) (ptN l ((i+1) % n)) (ptN l k):=fun k o a b=>by
    have:=(key i k).1 (j k (List.mem_range.2 (by rw[g];exact o)))
    rcases this with c|c|c
    ·exact absurd c a
    ·exact absurd c b
    ·exact c
   unfold cvxR;rw[Bool.and_eq_true]
   constructor
   ·rw[x,Nat.mod_eq_of_lt f,<-zhu]
    refine t _ (Nat.mod_lt _ oM) ?_ ?_<;>rw[mod2 oM]
    ·split<;>omega
    ·rw[mod2 (show i+1<2*n by omega)]
     split<;>split<;>omega
   ·rw[List.all_eq_true]
    intro k o;rw[List.mem_range]at o
    by_cases q:k<2
    ·simp[q]
    ·have:decide (k<2)=false:=decide_eq_false q
     rw[this,Bool.false_or,y,Nat.mod_eq_of_lt f];refine t _ (Nat.mod_lt _ oM) ?_ ?_<;>rw[mod2 (show i+k<2*n by omega)]
     ·split<;>omega
     ·rw[mod2 (show i+1<2*n by omega)]
      split<;>split<;>omega
  ·intro h i m
   have f:i<n:=by rw[<-g];exact List.mem_range.1 m
   have j:=h i m;unfold cvxR at j;rw[Bool.and_eq_true,x,List.all_eq_true]at j;obtain⟨s,z⟩:=j;unfold cvxI;rw[List.all_eq_true];intro k o;have K:k<n:=by rw[<-g];exact List.mem_range.1 o
   rw[key]
   by_cases a:k=i
   ·exact .inl a
   ·by_cases b:k=(i+1) % n
    ·exact .inr (.inl b)
    ·refine .inr (.inr ?_)
     rw[mod2 (show i+1<2*n by omega)]at b
     by_cases c:k=(i+n-1) % n
     ·rw[Nat.mod_eq_of_lt f,<-zhu,<-c]at s
      exact s
     ·rw[mod2 (show i+n-1<2*n by omega)]at c
      obtain⟨d,u⟩:∃d,d=if i<=k then k-i else k+n-i:=⟨_,rfl⟩
      have r:2<=d/\d<n-1:=by
       split at u<;>split at b<;>split at c<;>omega
      have e:(i+d) % n=k:=by
       rw[mod2 oM]
       split at u<;>split<;>omega
      have:=z d (List.mem_range.2 (by rw[g];exact r.2));have D:decide (d<2)=false:=decide_eq_false oM;rw[D,Bool.false_or,y,Nat.mod_eq_of_lt f,e]at this;exact this
theorem zof{l:LP}(h:l≠[]):l.foldl (fun o q=>(min o.1 q.1,min o.2 q.2)) (ptN l 0)=leastP l:=by
 cases l with
 | nil=>exact absurd rfl h
 | cons p a =>
  show List.foldl _ (min p.1 p.1,min p.2 p.2) a=leastP (p::a)
  rw[Int.min_self,Int.min_self];rfl
def firN(l:LP):Nat->Nat
 | 0=>0
 | i+1=>if (ptN l i).2<(ptN l (firN l i)).2\/((ptN l i).2=(ptN l (firN l i)).2/\(ptN l i).1<(ptN l (firN l i)).1)then i else firN l i
def lexL(a b:Int×Int):Prop:=a.2<b.2\/(a.2=b.2/\a.1<b.1)
theorem zg4(q m:Int×Int):lowC q m<0 ↔ lexL q m:=by
 unfold lowC lexL orL cmp3
 by_cases a:q.2<m.2
 ·simp[a]
 ·by_cases b:m.2<q.2
  ·simp[a,b]
   try omega
  ·have e:q.2=m.2:=oM
   simp only[e,Int.lt_irrefl,if_false]
   by_cases c:q.1<m.1
   ·simp[c,orL]
   ·by_cases d:m.1<q.1
    ·simp[c,d,orL]
     try omega
    ·simp[c,d,orL]
theorem zge(l:LP):∀n,n+1<=l.length->firN l (n+1)<n+1/\ptN l (firN l (n+1))=minP (l.take (n+1))/\(∀j,j<n+1->¬lexL (ptN l j) (ptN l (firN l (n+1))))/\∀j,j<firN l (n+1)->ptN l j≠ptN l (firN l (n+1)):=by
 intro n
 induction n with
 | zero =>
  intro h;have e:firN l 1=0:=by unfold firN;split<;>rfl
  rw[e]
  obtain⟨p,t,rfl⟩:∃p t,l=p::t:=by
   cases l with
   | nil=>simp at h
   | cons p t=>exact⟨p,t,rfl⟩
  refine⟨by omega,rfl,fun j b=>?_,fun j b=>absurd b oM⟩;obtain rfl:j=0:=oM
  unfold lexL;omega
 | succ n u =>
  intro h;obtain⟨q,k,g,m⟩:=u oM
  have s:l[n+1]?=O (ptN l (n+1)):=by
   unfold ptN;rw[gD,gE oM];rfl
  have i:l.take (n+1)≠[]:=by
   intro e;have:=congrArg List.length e;rw[List.length_take,List.length_nil]at this;omega
  have r:minP (l.take (n+2))=lowP (minP (l.take (n+1))) (ptN l (n+1)):=by
   rw[List.take_add_one,s];exact zfy _ _ i
  obtain⟨f,o⟩:=gX (firN l (n+1));rw[o]at q k g m;rw[r,<-k];unfold lowP;have d:firN l (n+1+1)=if (ptN l (n+1)).2<(ptN l (firN l (n+1))).2\/((ptN l (n+1)).2=(ptN l (firN l (n+1))).2/\(ptN l (n+1)).1<(ptN l (firN l (n+1))).1)then n+1 else firN l (n+1):=rfl
  rw[o]at d
  by_cases c:lexL (ptN l (n+1)) (ptN l f)
  ·rw[if_pos ((zg4 _ _).2 c)]
   rw[if_pos (show (ptN l (n+1)).2<(ptN l f).2\/((ptN l (n+1)).2=(ptN l f).2/\(ptN l (n+1)).1<(ptN l f).1)from c)]at d;rw[d];refine⟨by omega,rfl,fun j b=>?_,fun j b e=>?_⟩
   ·by_cases a:j=n+1
    ·subst a;unfold lexL;omega
    ·have:=g j oM
     unfold lexL at *;omega
   ·have:=g j oM
    rw[e]at this;exact this c
  ·rw[if_neg (fun h=>c ((zg4 _ _).1 h))]
   rw[if_neg (show ¬((ptN l (n+1)).2<(ptN l f).2\/((ptN l (n+1)).2=(ptN l f).2/\(ptN l (n+1)).1<(ptN l f).1))from c)]at d;rw[d];refine⟨by omega,rfl,fun j b=>?_,m⟩
   by_cases a:j=n+1
   ·subst a;exact c
   ·exact g j oM
theorem zmb{l:LP}(h:l≠[]):firN l l.length=idxN l:=by
 have m:=List.length_pos_iff.2 h;obtain⟨n,k⟩:∃n,l.length=n+1:=⟨l.length-1,by omega⟩;obtain⟨d,b,o,c⟩:=zge l n oM;rw[k];rw[show l.take (n+1)=l from lT oM]at b;obtain⟨f,i⟩:=gX (firN l (n+1));rw[i]at d b c ⊢
 have e:∀j,j<l.length->l[j]?=O (ptN l j):=fun j a=>by
  unfold ptN;rw[gD,gE a];rfl
 have g:∀j (a:j<l.length),l[j]=ptN l j:=fun j a=>by
  have:=e j a;rw[gE a]at this;exact Option.some.inj this
 have:l.findIdx? (fun p=>minP l==p)=O f:=by
  rw[List.findIdx?_eq_some_iff_getElem];refine⟨by omega,by rw[g f oM,b];simp,fun j a=>?_⟩;rw[g j oM,<-b]
  simpa using fun e=>c j a e.symm
 unfold idxN idxB;rw[this];rfl
theorem znx(l:LP){m:Nat}(h:m<l.length):(List.range l.length).map (fun i=>ptN l ((m+i) % l.length))=l.drop m++l.take m:=by
 apply List.ext_getElem
 ·rw[lL,List.length_range,lA,List.length_drop,List.length_take]
  omega
 ·intro i a b
  rw[List.getElem_map,List.getElem_range];rw[lL,List.length_range]at a;unfold ptN;rw[mod2 oM,gD]
  by_cases c:m+i<l.length
  ·rw[if_pos c,gE c,List.getElem_append_left (by rw[List.length_drop];omega),List.getElem_drop];rfl
  ·rw[if_neg c,gE oM,List.getElem_append_right (by rw[List.length_drop];omega),List.getElem_take]
   have e:m+i-l.length=i-(l.drop m).length:=by rw[List.length_drop];omega
   simp only[e];rfl
def settR(l:LP):LP:=(List.range l.length).map fun i=>((ptN l ((firN l l.length+i) % l.length)).1-(leastP l).1,(ptN l ((firN l l.length+i) % l.length)).2-(leastP l).2)
theorem zny(l:LP):settR l=settledP l:=by
 by_cases h:l=[]
 ·subst h;rfl
 ·unfold settR settledP
  rw[zmb h,<-znx l (zeO h).2,List.map_map];rfl
def rotN:Nat->Int×Int->Int×Int
 | 0,p=>p
 | n+1,p=>(-(rotN n p).2,(rotN n p).1)
def layR(way:Int)(p:Int×Int):Int×Int:=rotN (way % 4).toNat (if 4<=way then (-p.1,p.2)else p)
theorem zmm(way:Int)(p:Int×Int):layR way p=wayP way p:=by
 unfold layR wayP;obtain⟨q,a⟩:=gX ((if 4<=way then (-p.1,p.2)else p))
 have e:(if 3<way then (-p.1,p.2)else p)=q:=by
  rw[<-a]
  by_cases h:4<=way
  ·rw[if_pos h,if_pos oM]
  ·rw[if_neg h,if_neg oM]
 rw[a,e];have h:way % 4=0\/way % 4=1\/way % 4=2\/way % 4=3:=oM
 rcases h with h|h|h|h<;>rw[h]
 ·rfl
 ·rfl
 ·show (-(rotN 1 q).2,(rotN 1 q).1)=_
  rfl
 ·show (-(rotN 2 q).2,(rotN 2 q).1)=_
  simp[rotN]
def turnR(way:Int)(l:LP):LP:=settR ((List.range l.length).map fun i=>layR way (ptN l (if 4<=way then l.length-1-i else i)))
theorem znc(l:LP):(List.range l.length).map (ptN l)=l:=by
 apply List.ext_getElem
 ·simp
 ·intro i b a
  rw[List.getElem_map,List.getElem_range];unfold ptN;rw[gD,gE a];rfl
theorem znd(l:LP):(List.range l.length).map (fun i=>ptN l (l.length-1-i))=l.reverse:=by
 apply List.ext_getElem
 ·simp
 ·intro i b a
  rw[List.length_reverse]at a;rw[List.getElem_map,List.getElem_range,List.getElem_reverse];unfold ptN;rw[gD,gE oM];rfl
theorem zkx(way:Int)(l:LP):turnR way l=turnedP way l:=by
 unfold turnR turnedP;rw[zny]
 by_cases h:4<=way
 ·rw[if_pos (show 3<way by omega),<-List.map_reverse,<-znd,List.map_map]
  congr 1
  apply List.map_congr_left
  intro i _;rw[if_pos h,zmm];rfl
 ·rw[if_neg (show ¬3<way by omega)]
  conv=>rhs;rw[<-znc l,List.map_map]
  congr 1
  apply List.map_congr_left
  intro i _;rw[if_neg h,zmm];rfl
def cornR(p:Pl):LP:=(turnR p.way p.shape).map fun q=>(q.1+p.ax,q.2+p.az)
theorem zmR(p:Pl):cornR p=cornersP p:=by
 unfold cornR cornersP;rw[zkx]
def placR(l:LP):Bool:=(l.all fun p=>wthn p.1 0 2000&&wthn p.2 0 2000)&&(convR l&&(decide ((leastP l).1=0)&&(decide ((leastP l).2=0)&&decide (firN l l.length=0))))
theorem zjX(l:LP):placR l=placedB l:=by
 unfold placR placedB;rw[zmP]
 have g:(l.all fun p=>wthn p.1 0 2000&&wthn p.2 0 2000)=!(l.any farB):=by
  rw[List.not_any_eq_all_not]
  congr 1
  funext p
  unfold farB
  cases wthn p.1 0 2000<;>cases wthn p.2 0 2000<;>rfl
 rw[g]
 cases l.any farB with
 | true=>rfl
 | false =>
  cases hc:convexB l with
  | false=>rfl
  | true =>
   have a:l≠[]:=by
    intro e;subst e;simp[convexB,wthn]at hc
   have i:(leastP l==(0,0))=(decide ((leastP l).1=0)&&decide ((leastP l).2=0)):=by
    rw[Bool.eq_iff_iff];simp[Prod.ext_iff]
   have k:(minP l==l.getD 0 (0,0))=decide (firN l l.length=0):=by
    rw[zmb a,Bool.eq_iff_iff,beq_iff_eq,decide_eq_true_eq];obtain⟨b,q⟩:=zeO a;have m:=List.length_pos_iff.2 a;have f:l.getD 0 (0,0)=l[0]:=by rw[gD,gE m];rfl
    unfold idxB at b
    cases hf:l.findIdx? (fun p=>minP l==p)with
    | none =>
     rw[hf]at b;simp at b
     try omega
    | some j =>
     rw[hf]at b;have n:idxN l=j:=by simp at b;omega
     rw[n];rw[List.findIdx?_eq_some_iff_getElem]at hf;obtain⟨o,c,d⟩:=hf
     constructor
     ·intro h
      cases j with
      | zero=>rfl
      | succ j =>
       have:=d 0 oM;rw[<-f,h]at this;simp at this
     ·rintro rfl
      rw[f]
      simpa using c
   rw[i,k]
   cases decide ((leastP l).1=0)<;>cases decide ((leastP l).2=0)<;>rfl
def EdgC(cs:LP)(u v:Int×Int):Prop:=(∃A B,cs=A++u::v::B)\/(∃M,cs=v::M++[u])
structure Cvx (cs:LP):Prop where
 nd:cs.Nodup
 three:3<=cs.length
 left:∀u v,EdgC cs u v->∀c∈cs,c≠u->c≠v->0<trn u v c
theorem EdgC.mem{cs:LP}{u v:Int×Int}(h:EdgC cs u v):u∈cs/\v∈cs:=by
 rcases h with ⟨A,B,rfl⟩|⟨M,rfl⟩<;>simp
theorem EdgC.rot{P Q:LP}{u v:Int×Int}(h:EdgC (Q++P) u v)(k:2<=(P++Q).length):EdgC (P++Q) u v:=by
 rcases h with ⟨A,B,h⟩|⟨M,h⟩
 ·rcases List.append_eq_append_iff.1 h with ⟨X,b,a⟩|⟨X,b,a⟩
  ·
   subst b;exact .inl ⟨X,B++Q,by rw[a];simp⟩
  ·
   cases X with
   | nil =>
    simp at b a;subst b;exact .inl ⟨[],B++Q,by rw[<-a];simp⟩
   | cons x X =>
    simp at a;obtain⟨rfl,a⟩:=a
    cases X with
    | nil =>
     simp at a;subst b a;exact .inr ⟨B++A,by simp⟩
    | cons y X =>
     simp at a;obtain⟨rfl,rfl⟩:=a;subst b;exact .inl ⟨P++A,X,by simp⟩
 ·
  cases P with
  | nil=>simp at h;exact .inr ⟨M,by simpa using h⟩
  | cons p P =>
   cases Q with
   | nil=>simp at h;exact .inr ⟨M,by simpa using h⟩
   | cons q Q =>
    have i:q=v:=by simp at h;exact h.1
    have d:=congrArg List.getLast? h;rw[List.getLast?_append,List.getLast?_append]at d
    have g:(p::P).getLast?=O u:=by
     cases hh:(p::P).getLast? with
     | none=>simp at hh
     | some z=>rw[hh]at d;simpa using d
    obtain⟨c,f⟩:∃c,p::P=c++[u]:=⟨(p::P).dropLast,by
     have e:=List.getLast?_eq_some_iff.1 g;obtain⟨l,j⟩:=e;rw[j];simp⟩
    rw[f];subst i;exact .inl ⟨c,Q,by simp⟩
theorem EdgC.rev{cs:LP}{u v:Int×Int}(h:EdgC cs.reverse u v):EdgC cs v u:=by
 rcases h with ⟨A,B,h⟩|⟨M,h⟩
 ·refine .inl ⟨B.reverse,A.reverse,?_⟩
  rw[<-List.reverse_reverse cs,h];simp
 ·refine .inr ⟨M.reverse,?_⟩
  rw[<-List.reverse_reverse cs,h];simp
theorem EdgC.map{cs:LP}{f:Int×Int->Int×Int}{u v:Int×Int}(h:EdgC (cs.map f) u v):∃u' v',u=f u'/\v=f v'/\EdgC cs u' v':=by
 rcases h with ⟨A,B,h⟩|⟨M,h⟩
 ·obtain⟨i,X,e,n,c⟩:=List.map_eq_append_iff.1 h
  obtain⟨u',m,a,g,d⟩:=List.map_eq_cons_iff.1 c;obtain⟨v',B',b,hv,o⟩:=List.map_eq_cons_iff.1 d;exact⟨u',v',g.symm,hv.symm,.inl ⟨i,B',by rw[e,a,b]⟩⟩
 ·rw[List.cons_append]at h
  obtain⟨v',X,e,hv,c⟩:=List.map_eq_cons_iff.1 h;obtain⟨j,Y,a,q,k⟩:=List.map_eq_append_iff.1 c;obtain⟨u',Z,b,g,l⟩:=List.map_eq_cons_iff.1 k;have:Z=[]:=List.map_eq_nil_iff.1 l;subst this;exact⟨u',v',g.symm,hv.symm,.inr ⟨j,by rw[e,a,b];simp⟩⟩
theorem Cvx.rot{P Q:LP}(h:Cvx (P++Q)):Cvx (Q++P):=by
 have e:∀x,x∈Q++P->x∈P++Q:=fun x a=>by
  rcases List.mem_append.1 a with a|a
  ·exact List.mem_append.2 (.inr a)
  ·exact List.mem_append.2 (.inl a)
 have g:=h.three;refine⟨(List.perm_append_comm.nodup_iff).1 h.nd,by rw[lA]at *;omega,fun u v d c b f hv=>h.left u v (d.rot oM) c (e c b) f hv⟩
theorem Cvx.map{cs:LP}(h:Cvx cs)(f:Int×Int->Int×Int)(m:∀u v c,trn (f u) (f v) (f c)=trn u v c)(n:∀x y,f x=f y->x=y):Cvx (cs.map f):=by
 refine⟨?_,by rw[lL];exact h.three,fun u v l c k o hv=>?_⟩
 ·exact List.Pairwise.map f (fun a b d e=>d (n a b e)) h.nd
 ·obtain⟨q,r,rfl,rfl,i⟩:=l.map
  obtain⟨j,g,rfl⟩:=List.mem_map.1 k;rw[m];exact h.left q r i j g (fun e=>o (by rw[e])) (fun e=>hv (by rw[e]))
theorem Cvx.flip{cs:LP}(h:Cvx cs)(f:Int×Int->Int×Int)(m:∀u v c,trn (f u) (f v) (f c)=trn v u c)(n:∀x y,f x=f y->x=y):Cvx (cs.map f).reverse:=by
 refine⟨?_,by rw[List.length_reverse,lL];exact h.three,fun u v l c k o hv=>?_⟩
 ·exact(List.reverse_perm _).nodup_iff.2 (List.Pairwise.map f (fun a b d e=>d (n a b e)) h.nd)
 ·obtain⟨r,q,rfl,rfl,i⟩:=(EdgC.rev l).map
  obtain⟨j,g,rfl⟩:=List.mem_map.1 (List.mem_reverse.1 k);rw[m];exact h.left r q i j g (fun e=>hv (by rw[e])) (fun e=>o (by rw[e]))
end
end Go.Proofs.YtjnjpagegkcgfaaGreatDoor.Cop
