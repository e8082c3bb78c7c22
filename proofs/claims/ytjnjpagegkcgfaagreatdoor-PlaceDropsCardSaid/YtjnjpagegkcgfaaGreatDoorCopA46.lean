/- Part 47: contracts of what the law calls. -/
import Derived.Test.YtjnjpagegkcgfaaGreatDoorCopA45
import Derived.Test.YtjnjpagegkcgfaaGreatDoorCopA28
import Derived.Test.YtjnjpagegkcgfaaGreatDoorCopA41
import Derived.Test.YtjnjpagegkcgfaaGreatDoorCopA44
import Derived.Laws.StructEq
set_option maxRecDepth 1000000
set_option maxHeartbeats 16000000
set_option linter.unusedSimpArgs false
set_option linter.unusedVariables false
open Go.Value renaming slice→O,bool→Z,int→V,agg→M
open Option renaming none→Y,some→N
open Go renaming World→X,Value→J,Addr→C
open Go.IntKind renaming i64→I
namespace Go.Proofs.YtjnjpagegkcgfaaGreatDoor.Cop
section
open Go.RowKit Go.Shelf Go.Sort
attribute [local go_sem] Oper.semAt_some
def GrqS (w:X) (l:List (Int×Int)) (t3:J) (W:X):Prop:=
 ∃i:Nat,t3=V I i∧i≤l.length∧Ext w W∧∀j,j<i→grdR l j=true
theorem zov (l:List (Int×Int)) (i:Nat):grdR l i=(!pfarB (ptN l i).1&&(!pfarB (ptN l i).2&&(i==0 || decide ((ptN l (i-1)).1<(ptN l i).1)))):=rfl
theorem zlx (w:X) (v:J) (l:List (Int×Int)) (h:IsPr w v l) (hl:l.length≤1000000) :
  Calls Tryz.prog 139 #[v] w fun e w'=>e = .returned (Z (groundB l))∧Ext w w':=by
 obtain⟨a,c,rfl⟩:=h.form;obtain⟨n,hn⟩:=gX l.length;rw [hn]at hl ⊢;obtain⟨Q,R⟩:=gX (groundB l);rw [R];have aa:=hd9 R;have L:=hd9 hn;have H:=hd9 h;clear hn h R;go_enter Tryz.func139,Tryz.ntmps139;go_wp2
 go_loopw [3] (GrqS w l) (fun t3 _=>n-(intOf t3).toNat)
 case atStart=>exact⟨0,rfl,by omega,eR _,fun j hj=>by omega⟩
 case round =>
  obtain⟨i,rfl,hi,hx,y⟩:=hrel;rw [L.out]at hi;have s:=hd9 y;clear y
  by_cases ae:i<n
  ·obtain⟨b,o,rfl,hb,c0,c1⟩:=(H.out.ext' hx).pt (i:=i) (by rw [L.out];exact ae)
   have r:=zov l i;have ag:grdR l i=false→Q=false:=fun h9=>by rw [←aa.out];exact zcb (by rw [L.out];exact ae) h9
   have g:0<i→∃px pz,ptN l (i-1)=(px,pz)∧wr.cell? ⟨b,o+(i-1)*2,Y⟩=N (V I px):=fun h0=>by
    obtain⟨b2,o2,e2,-,d0,-⟩:=(H.out.ext' hx).pt (i:=i-1) (by rw [L.out];omega)
    cases e2
    exact⟨_,_,rfl,d0⟩
   obtain⟨⟨x,z⟩,hq⟩:∃q,ptN l i=q:=⟨_,rfl⟩;rw [hq]at c0 c1 r;dsimp only at c0 c1 r;obtain⟨bx,ac⟩:=gX ((!pfarB x));obtain⟨bz,ad⟩:=gX ((!pfarB z));have hX:=fun W=>zcH W x
   have hZ:=fun W=>zcH W z
   rw [ac]at hX r;rw [ad]at hZ r;have HX:=hd9 hX;have HZ:=hd9 hZ;have u:=hd9 r;have P:=hd9 ag;have g0:(0:Int)≤(i:Int):=oM
   have g1:(i:Int)<(n:Int):=oM
   clear hq ac ad hX hZ r ag
   cases bx with
   | false =>
    have e:Q=false:=P.out (by rw [u.out];rfl);subst e;clear g;go_wp2;refine wp_region_held_drew (S:=CellL [(⟨b,o+i*2,Y⟩,V I x),(⟨b,o+i*2+1,Y⟩,V I z)]) kM cA (fun d=>?_);refine sN 0 ?_
    iterate 5
     refine tkn ?_
    refine oN ?_;refine cl1 (i:=5) fun K f=>?_
    go_simp
    (with_reducible refine cM (HX.out wr.drew) ?_)
    rintro e D ⟨rfl,k⟩
    go_wp2_with fail
    refine kO f (cE d k) (fun d=>?_);clear f K;refine sN 6 ?_
    iterate 2
     refine tkn ?_
    iterate 7
     refine tkgn ?_
    iterate 2
     refine tkn ?_
    iterate 16
     refine tkgn ?_
    refine tkn ?_;refine oN ?_;refine wpAnyH_done kM ?_ _;go_wp2;go_ret;exact⟨rfl,eA⟩
   | true =>
    cases bz with
    | false =>
     have e:Q=false:=P.out (by rw [u.out];rfl);subst e;clear g;go_wp2;refine wp_region_held_drew (S:=CellL [(⟨b,o+i*2,Y⟩,V I x),(⟨b,o+i*2+1,Y⟩,V I z)]) kM cA (fun d=>?_);refine sN 0 ?_
     iterate 5
      refine tkn ?_
     refine oN ?_;refine cl1 (i:=5) fun K f=>?_
     go_simp
     (with_reducible refine cM (HX.out wr.drew) ?_)
     rintro e D ⟨rfl,k⟩
     go_wp2_with fail
     refine kO f (cE d k) (fun d=>?_);clear f K;refine sN 6 ?_
     iterate 7
      refine tkn ?_
     refine oN ?_;refine cl1 (i:=13) fun K f=>?_
     go_simp
     (with_reducible refine cM (HZ.out D) ?_)
     rintro e w6 ⟨rfl,p⟩
     go_wp2_with fail
     refine kO f (cE d p) (fun d=>?_);clear f K;refine sN 14 ?_
     iterate 3
      refine tkn ?_
     iterate 16
      refine tkgn ?_
     refine tkn ?_;refine oN ?_;refine wpAnyH_done kM ?_ _;go_wp2;go_ret;exact⟨rfl,eA⟩
    | true =>
     by_cases ah:i=0
     ·subst ah
      have e9:grdR l 0=true:=by rw [u.out];rfl
      simp only [Nat.zero_mul,Nat.add_zero]at c0 c1;have E9:=hd9 e9;clear e9 g;go_wp2;refine wp_region_held_drew (S:=CellL [(⟨b,o,Y⟩,V I x),(⟨b,o+1,Y⟩,V I z)]) kM cA (fun d=>?_);refine sN 0 ?_
      iterate 5
       refine tkn ?_
      refine oN ?_;refine cl1 (i:=5) fun K f=>?_
      go_simp
      (with_reducible refine cM (HX.out wr.drew) ?_)
      rintro e D ⟨rfl,k⟩
      go_wp2_with fail
      refine kO f (cE d k) (fun d=>?_);clear f K;refine sN 6 ?_
      iterate 7
       refine tkn ?_
      refine oN ?_;refine cl1 (i:=13) fun K f=>?_
      go_simp
      (with_reducible refine cM (HZ.out D) ?_)
      rintro e w6 ⟨rfl,p⟩
      go_wp2_with fail
      refine kO f (cE d p) (fun d=>?_);clear f K;refine sN 14 ?_
      iterate 6
       refine tkn ?_
      iterate 12
       refine tkgn ?_
      iterate 2
       refine tkn ?_
      refine oN ?_;refine wpAnyH_done kM ?_ _;go_wp2
      go_roundw
      case rel=>exact⟨0+1,by go_num,by rw [L.out];omega,(hx.drew.trans k).trans p,fun j hj=>by
        by_cases T:j=0
        ·subst T;exact E9.out
        ·exact s.out j oM⟩
      case measure=>simp [intOf];omega
     ·obtain⟨m,rfl⟩:∃m,i=m+1:=⟨i-1,by omega⟩
      obtain⟨px,pz,hp,d0⟩:=g oM;simp only [Nat.add_sub_cancel]at hp d0;have t:=u.out;rw [Nat.add_sub_cancel,hp]at t;have e8:(m+1==0)=false:=sM
      rw [e8,Bool.true_and,Bool.true_and,Bool.false_or]at t;dsimp only at t;have ab:=hd9 t;have k1:(0:Int)≤(m:Int):=oM
      have k2:(m:Int)<(n:Int):=oM
      have k3:(0:Int)<(m:Int)+1:=oM
      have k4:((m:Int)+1).toNat=m+1:=oM
      have k5:(m:Int)+1-1=(m:Int):=oM
      have k6:(0:Int)≤(m:Int)+1:=oM
      have k7:(m:Int)+1<(n:Int):=oM
      have kw:IntKind.i64.wrap (m:Int)=(m:Int):=iW _ oM;clear g hp t
      by_cases af:px<x
      ·have e1:decide (x≤px)=false:=by simp;omega
       have e9:grdR l (m+1)=true:=by rw [ab.out];simpa using af
       have E9:=hd9 e9;clear e9;go_wp2;refine wp_region_held_drew (S:=CellL [(⟨b,o+(m+1)*2,Y⟩,V I x),(⟨b,o+(m+1)*2+1,Y⟩,V I z),(⟨b,o+m*2,Y⟩,V I px)]) kM cA (fun d=>?_);refine sN 0 ?_
       iterate 5
        refine tkn ?_
       refine oN ?_;refine cl1 (i:=5) fun K f=>?_
       go_simp
       (with_reducible refine cM (HX.out wr.drew) ?_)
       rintro e D ⟨rfl,k⟩
       go_wp2_with fail
       refine kO f (cE d k) (fun d=>?_);clear f K;refine sN 6 ?_
       iterate 7
        refine tkn ?_
       refine oN ?_;refine cl1 (i:=13) fun K f=>?_
       go_simp
       (with_reducible refine cM (HZ.out D) ?_)
       rintro e w6 ⟨rfl,p⟩
       go_wp2_with fail
       refine kO f (cE d p) (fun d=>?_);clear f K;refine sN 14 ?_
       iterate 20
        refine tkn ?_
       refine oN ?_;clear kw;refine wpAnyH_done kM ?_ _;go_wp2
       go_roundw
       case rel=>exact⟨m+1+1,by go_num,by rw [L.out];omega,(hx.drew.trans k).trans p,fun j hj=>by
         by_cases T:j=m+1
         ·subst T;exact E9.out
         ·exact s.out j oM⟩
       case measure=>simp [intOf];omega
      ·have e1:decide (x≤px)=true:=by simp;omega
       have e:Q=false:=P.out (by rw [ab.out];simpa using af);subst e;go_wp2;refine wp_region_held_drew (S:=CellL [(⟨b,o+(m+1)*2,Y⟩,V I x),(⟨b,o+(m+1)*2+1,Y⟩,V I z),(⟨b,o+m*2,Y⟩,V I px)]) kM cA (fun d=>?_);refine sN 0 ?_
       iterate 5
        refine tkn ?_
       refine oN ?_;refine cl1 (i:=5) fun K f=>?_
       go_simp
       (with_reducible refine cM (HX.out wr.drew) ?_)
       rintro e D ⟨rfl,k⟩
       go_wp2_with fail
       refine kO f (cE d k) (fun d=>?_);clear f K;refine sN 6 ?_
       iterate 7
        refine tkn ?_
       refine oN ?_;refine cl1 (i:=13) fun K f=>?_
       go_simp
       (with_reducible refine cM (HZ.out D) ?_)
       rintro e w6 ⟨rfl,p⟩
       go_wp2_with fail
       refine kO f (cE d p) (fun d=>?_);clear f K;refine sN 14 ?_
       iterate 20
        refine tkn ?_
       refine oN ?_;clear kw;refine wpAnyH_done kM ?_ _;go_wp2;go_ret;exact⟨rfl,eA⟩
  ·obtain rfl:i=n:=oM
   have e:Q=wthn i 2 40:=by
    rw [←aa.out];unfold groundB;rw [L.out,zcz s.out,Bool.and_true]
   have E:=hd9 e;clear e;unfold wthn at E
   by_cases k1:2≤i
   ·have k2:(2:Int)≤(i:Int):=oM
    have e2:Q=decide ((i:Int)≤40):=by rw [E.out];simp;omega
    subst e2;go_wp2;go_ret;exact⟨za9 sM,eA⟩
   ·have k2:¬(2:Int)≤(i:Int):=oM
    have e2:Q=false:=by rw [E.out];simp;omega
    subst e2;go_wp2;go_ret;exact⟨rfl,eA⟩
theorem zhh (w:X) (vg v:J) (g:List (Int×Int)) (p:Pl) (T:IsPr w vg g) (h:IsPr w v p.shape) (q:placedOk p=true) (D:g≠[]) (hl:g.length≤1000000) :
  Calls Tryz.prog 65 #[vg,M (plc p v)] w fun e w'=>e = .returned (Z (holdsB g p))∧Ext w w':=by
 have K:=zaj q;have Q:=hd9 (fun W (hW:Ext w W)=>zby W v p (h.ext' hW) q);have HE:=hd9 (fun W v (hv:IsPr W v (lowP2 p))=>zbQ W v _ hv K.1.1);obtain⟨k,j⟩:=gX (holdsB g p);rw [j];unfold holdsB at j;obtain⟨l1,e1⟩:=gX (lineL (lowP2 p));obtain⟨r1,e2⟩:=gX (lineR (lowP2 p));rw [show (ptN (lowP2 p) 0).1=l1 from e1,show (ptN (lowP2 p) ((lowP2 p).length-1)).1=r1 from e2]at HE;rw [e1,e2]at j;obtain⟨ga,gc,rfl⟩:=T.form;obtain⟨n,t⟩:=gX g.length;have af:0<n:=by rw [←t];exact List.length_pos_iff.2 D
 obtain⟨b,o,rfl,hb,R,-⟩:=T.pt (i:=0) (by rw [t];exact af);obtain⟨b2,o2,e9,ac,S,-⟩:=T.pt (i:=n-1) (by rw [t];omega)
 cases e9
 have u:lineL g=(ptN g 0).1:=rfl;have z:lineR g=(ptN g (n-1)).1:=by rw [←t];rfl
 rw [u,z]at j;obtain⟨x,hx⟩:=gX ((ptN g 0).1);obtain⟨y,hy⟩:=gX ((ptN g (n-1)).1);rw [hx]at R j;rw [hy]at S j;rw [t]at hl ⊢;obtain⟨m,hm⟩:=gX (n-1);rw [hm]at S;obtain rfl:n=m+1:=oM
 simp only [Nat.zero_mul,Nat.add_zero]at R;have Hk:=hd9 j;have k1:(0:Int)≤(m:Int):=oM
 have k2:(m:Int)<(m:Int)+1:=oM
 have k5:(m:Int)+1-1=(m:Int):=oM
 have k3:(0:Int)<(m:Int)+1:=oM
 obtain⟨a,n9,c,rfl⟩:=h.form3;clear j e1 e2 u z hx hy t hm T h K q D ac;obtain⟨nm,sh,d,de,gx,gz,wy,ax,az,sk⟩:=p;unfold plc at Q ⊢;dsimp only at Q ⊢
 by_cases h1:x≤l1
 ·have e:k=decide (r1≤y):=by rw [←Hk.out];simp [h1]
  subst e;go_enter Tryz.func65,Tryz.ntmps65
  go_wp2_with(first|(go_at_call 36;(with_reducible refine(Q.out _ ?_).mono ?_);exact eA;rintro e L ⟨v1,rfl,f,r⟩;obtain⟨a1,n1,c1,rfl⟩:=f.form3;obtain⟨⟨ad,ae⟩,P⟩:=cK1 w r;(have X1:Ext w L:=eA))|(go_at_call 118;(with_reducible refine(HE.out L _ f.pr).mono ?_);rintro e w2 ⟨rfl,s⟩;(have l:Ext w w2:=X1.trans s);(have aa:=l.cellS R);(have ab:=l.cellS S)))
  go_ret;exact⟨rfl,l⟩
 ·have e:k=false:=by rw [←Hk.out];simp [h1]
  subst e;go_enter Tryz.func65,Tryz.ntmps65
  go_wp2_with(first|(go_at_call 36;(with_reducible refine(Q.out _ ?_).mono ?_);exact eA;rintro e L ⟨v1,rfl,f,r⟩;obtain⟨a1,n1,c1,rfl⟩:=f.form3;obtain⟨⟨ad,ae⟩,P⟩:=cK1 w r;(have X1:Ext w L:=eA))|(go_at_call 118;(with_reducible refine(HE.out L _ f.pr).mono ?_);rintro e w2 ⟨rfl,s⟩;(have l:Ext w w2:=X1.trans s);(have aa:=l.cellS R);(have ab:=l.cellS S)))
  go_ret;exact⟨rfl,l⟩
end
section
open Go.RowKit Go.Shelf Go.Sort Go.Lib
theorem znC {w:X} {base:Nat} {a:Option C} {n c:Nat} {b:List Be} (h:OwnBe w base (O a n c) b):n=b.length:=by
 obtain⟨f,d,e,_⟩:=h;rw [d.len,e]
theorem zmD {w:X} {base:Nat} {a:Option C} {n c:Nat} {o:List Be} (h:OwnBe w base (O a n c) o) {k:Nat} {b:Be} (p:o[k]?=N b) :
  ∃g a1 m1 c1 s1 b1 n1 d1 a2 m2 c2 s2 b2 n2 d2 a3 m3 c3 s3 b3 n3 d3 a4 m4 c4 s4 b4 n4 d4,a=N ⟨g,0,Y⟩∧base≤g∧g<w.heap.size ∧
   CellL [(⟨g,k*17,Y⟩,V I b.num),(⟨g,k*17+1,Y⟩,O a1 m1 c1),(⟨g,k*17+2,Y⟩,Z s1),(⟨g,k*17+3,Y⟩,O b1 n1 d1),(⟨g,k*17+4,Y⟩,O a2 m2 c2),(⟨g,k*17+5,Y⟩,Z s2),(⟨g,k*17+6,Y⟩,O b2 n2 d2),
    (⟨g,k*17+7,Y⟩,O a3 m3 c3),(⟨g,k*17+8,Y⟩,Z s3),(⟨g,k*17+9,Y⟩,O b3 n3 d3),(⟨g,k*17+10,Y⟩,O a4 m4 c4),(⟨g,k*17+11,Y⟩,Z s4),(⟨g,k*17+12,Y⟩,O b4 n4 d4),
    (⟨g,k*17+13,Y⟩,V I b.d1.1),(⟨g,k*17+14,Y⟩,V I b.d1.2),(⟨g,k*17+15,Y⟩,V I b.d2.1),(⟨g,k*17+16,Y⟩,V I b.d2.2)] w ∧
   IsR w (M #[O a1 m1 c1,Z s1,O b1 n1 d1]) b.fx∧IsR w (M #[O a2 m2 c2,Z s2,O b2 n2 d2]) b.fz∧IsR w (M #[O a3 m3 c3,Z s3,O b3 n3 d3]) b.tx∧IsR w (M #[O a4 m4 c4,Z s4,O b4 n4 d4]) b.tz:=by
 obtain⟨q,d,D,u⟩:=h;have K:=(lS.1 p).1;obtain⟨c,i⟩:∃c,q[k]?=N c:=⟨_,gE oM⟩;obtain⟨f,t,e,⟨a1,m1,c1,s1,b1,n1,d1,a2,m2,c2,s2,b2,n2,d2,r,v,x⟩,⟨a3,m3,c3,s3,b3,n3,d3,a4,m4,c4,s4,b4,n4,d4,s,y,z⟩⟩:=u k c b i p
 obtain rfl:f=[O a1 m1 c1,Z s1,O b1 n1 d1,O a2 m2 c2,Z s2,O b2 n2 d2]:=by
  have:=congrArg Array.toList (Value.agg.inj r)
  simpa using this
 obtain rfl:t=[O a3 m3 c3,Z s3,O b3 n3 d3,O a4 m4 c4,Z s4,O b4 n4 d4]:=by
  have:=congrArg Array.toList (Value.agg.inj s)
  simpa using this
 subst e;obtain⟨g,rfl,l,m⟩:=d.blk oM;refine⟨g,a1,m1,c1,s1,b1,n1,d1,a2,m2,c2,s2,b2,n2,d2,a3,m3,c3,s3,b3,n3,d3,a4,m4,c4,s4,b4,n4,d4,rfl,l,m,⟨?_,?_,?_,?_,?_,?_,?_,?_,?_,?_,?_,?_,?_,?_,?_,?_,?_,trivial⟩,v,x,y,z⟩
 ·exact d.cell (j:=0) i rfl
 ·exact d.cell (j:=1) i rfl
 ·exact d.cell (j:=2) i rfl
 ·exact d.cell (j:=3) i rfl
 ·exact d.cell (j:=4) i rfl
 ·exact d.cell (j:=5) i rfl
 ·exact d.cell (j:=6) i rfl
 ·exact d.cell (j:=7) i rfl
 ·exact d.cell (j:=8) i rfl
 ·exact d.cell (j:=9) i rfl
 ·exact d.cell (j:=10) i rfl
 ·exact d.cell (j:=11) i rfl
 ·exact d.cell (j:=12) i rfl
 ·exact d.cell (j:=13) i rfl
 ·exact d.cell (j:=14) i rfl
 ·exact d.cell (j:=15) i rfl
 ·exact d.cell (j:=16) i rfl
theorem zne (w:X) (b c:J) (d:IsPts w b exG) (e:IsPls w c ex3) (a:Gw w) :
  Calls Tryz.prog 16 #[M #[b,c],V I 2,V I 0] w (RetBs w [⟨0,100,80,200,80,(1,0),(1,0)⟩,⟨1,200,80,300,80,(1,0),(1,0)⟩]):=by
 have h:=zm0 w b c exG ex3 2 exC 0 d e a zfb rfl oM oM (zbo zfb).2.2 (zbo zfb).1 dM;rw [show ex3.length+1=4 from rfl,zmZ]at h;exact h
theorem znf (w:X) (b c v:J) (f:IsPts w b exG) (g:IsPls w c ex3) (hv:IsPts w v brickS) (a:Gw w) :
  Calls Tryz.prog 10 #[M #[b,c],M (plc exD v)] w fun e d=>e = .returned (.tuple #[V I 140,V I 0])∧Ext w d:=by
 refine(zg0 w b c v exG ex3 exD f g hv dM a).mono ?_;rintro e d ⟨rfl,i⟩
 have h:dropE exG ex3 exD=0:=by
  unfold dropE ex3;rw [show laidP exG [exA,exB,exC]=0 from zfb,if_neg dM,if_neg (by rw [zoM];decide)];simp only [holdsB,clearB,clashB,List.any_cons,List.any_nil,relP,freeB,leastR,stopsR,stopsZ,zcO,zdV,zdW,zfe,zjX,zhL,zhM,zhN,zmL]
  decide +kernel
 rw [h,if_pos rfl,znb];exact⟨rfl,i⟩
theorem zol (w:X) (b c:J) (f:IsPts w b brickS) (g:IsPts w c brickS) (a:Gw w) :
  Calls Tryz.prog 39 #[M (plc exA b),M (plc exB c)] w fun e d=>e = .returned (.tuple #[V .u8 1,V I 0])∧Ext w d:=by
 refine(zhV w b c exA exB f g dM dM a).mono ?_;rintro e d ⟨rfl,h⟩;unfold relK relE;rw [if_pos ⟨zmF,zmG⟩,if_pos ⟨zmF,zmG⟩,zoW];exact⟨rfl,h⟩
theorem zhz {n:Int} (h:Bd 1000 n):Rb limT (n:Rat):=(zaD h dM).mono dM
theorem zng (w:X) (a:Option C) (m c:Nat) (s:Bool) (f:Option C) (i c2:Nat) (b:Option C) (n d:Nat) (t:Bool) (g:Option C) (j h:Nat) (k:IsR w (M #[O a m c,Z s,O f i c2]) 100) (l:IsR w (M #[O b n d,Z t,O g j h]) 80) :
  Calls Tryz.prog 48 #[M #[O a m c,Z s,O f i c2,O b n d,Z t,O g j h]] w fun e o=>e = .returned (.string ⟨#[40,49,48,48,44,32,56,48,41]⟩)∧Ext w o:=by
 have:=zge w _ _ 100 80 k l (zhz (n:=100) (by unfold Bd;omega)) (zhz (n:=80) (by unfold Bd;omega)) _ ⟨a,m,c,s,f,i,c2,b,n,d,t,g,j,h,rfl,rfl,rfl⟩;rw [znY]at this;exact this
theorem zl5:textV 200 80=[40,50,48,48,44,32,56,48,41]:=by decide +kernel
theorem zg4 (w:X) (a:Option C) (m c:Nat) (s:Bool) (f:Option C) (i c2:Nat) (b:Option C) (n d:Nat) (t:Bool) (g:Option C) (j h:Nat) (k:IsR w (M #[O a m c,Z s,O f i c2]) 200) (l:IsR w (M #[O b n d,Z t,O g j h]) 80) :
  Calls Tryz.prog 48 #[M #[O a m c,Z s,O f i c2,O b n d,Z t,O g j h]] w fun e o=>e = .returned (.string ⟨#[40,50,48,48,44,32,56,48,41]⟩)∧Ext w o:=by
 have:=zge w _ _ 200 80 k l (zhz (n:=200) (by unfold Bd;omega)) (zhz (n:=80) (by unfold Bd;omega)) _ ⟨a,m,c,s,f,i,c2,b,n,d,t,g,j,h,rfl,rfl,rfl⟩;rw [zl5]at this;exact this
theorem zhW (w:X) (a:Gw w):Calls Tryz.prog 9 #[] w fun e w'=>e = .returned (Z true)∧Ext w w':=by
 have ak:=hd9 a;have HR:=hd9 (fun(W:X) (m:Ext w W) (v1 v2:J) (h1:IsPts W v1 brickS) (h2:IsPts W v2 brickS)=>zol W v1 v2 h1 h2 (a.ext m));have HB:=hd9 (fun(W:X) (m:Ext w W) (P Q:J) (hg:IsPts W P exG) (hp:IsPls W Q ex3)=>zne W P Q hg hp (a.ext m));have HD:=hd9 (fun(W:X) (m:Ext w W) (P Q v:J) (hg:IsPts W P exG) (hp:IsPls W Q ex3) (hv:IsPts W v brickS)=>znf W P Q v hg hp hv (a.ext m));unfold exA exB at HR;unfold exD at HD;have E0:=eR w;clear a;go_enter Tryz.func9,Tryz.ntmps9
 go_upto_region 2 with (first|(go_at_call 46;(with_reducible refine(zbe _ ⟨#[97]⟩ 0 0).mono ?_);rintro e w1 ⟨v1,rfl,u,z⟩;have E1:Ext w w1:=E0.trans z)|(go_at_call 46;(with_reducible refine(zbe _ ⟨#[98]⟩ 200 0).mono ?_);rintro e w2 ⟨v2,rfl,x,i⟩;have R:Ext w w2:=E1.trans i)|(go_at_call 39;(with_reducible refine(HR.out _ R _ _ (u.ext' i) x).mono ?_);rintro e w3 ⟨rfl,D⟩;have E3:Ext w w3:=R.trans D))
 clear z i D u x
 go_upto_region 3 with (first|(go_at_call 47;(with_reducible refine(zgb _).mono ?_);rintro e w4 ⟨aC,aE,rfl,q,s,K⟩;have S:Ext w w4:=E3.trans K)|(go_at_call 16;(with_reducible refine(HB.out _ S _ _ q s).mono ?_);rintro e w5 ⟨vb,rfl,h,L⟩;obtain⟨ba,bn,bc,rfl⟩:=h.form3;have E5:Ext w w5:=S.trans L))
 clear K L q s
 go_upto_region 4 with (first|(go_at_call 47;(with_reducible refine(zgb _).mono ?_);rintro e w6 ⟨aD,aF,rfl,r,t,j⟩;have E6:Ext w w6:=E5.trans j)|(go_at_call 46;(with_reducible refine(zbe _ ⟨#[100]⟩ 50 300).mono ?_);rintro e w7 ⟨v7,rfl,y,f⟩;have T:Ext w w7:=E6.trans f)|(go_at_call 10;(with_reducible refine(HD.out _ T _ _ _ (r.ext' f) (t.ext' f) y).mono ?_);rintro e w8 ⟨rfl,l⟩;have E8:Ext w w8:=T.trans l))
 have h:=h.ext ((j.trans f).trans l);clear j f l r t y E0 E1 R E3 S E5 E6 T HR HB HD;obtain rfl:=znC h;obtain⟨g,a1,m1,c1,s1,b1,n1,d1,a2,m2,c2,s2,b2,n2,d2,a3,m3,c3,s3,b3,n3,d3,a4,m4,c4,s4,b4,n4,d4,rfl,aa,al,hc,r1,r2,r3,r4⟩:=zmD h (k:=0) rfl;obtain⟨g',a5,m5,c5,s5,b5,n5,d5,a6,m6,c6,s6,b6,n6,d6,a7,m7,c7,s7,b7,n7,d7,a8,m8,c8,s8,b8,n8,d8,e,o,p,n,r5,r6,r7,r8⟩:=zmD h (k:=1) rfl;obtain rfl:g=g':=by cases e;rfl
 simp only [CellL,Nat.reduceMul,Nat.reduceAdd,and_true]at hc n;obtain⟨q0,q1,q2,q3,q4,q5,q6,q7,q8,q9,av,aw,ax,ay,az,aA,aB⟩:=hc;obtain⟨p0,p1,p2,p3,p4,p5,p6,p7,p8,p9,am,an,ao,ap,aq,ar,au⟩:=n;clear e o p aa;have E:=hd9 E8;clear E8 h
 go_wp2_with(first|(go_at_call 48;(with_reducible refine(zng _ _ _ _ _ _ _ _ _ _ _ _ _ _ _ (r1.ext ?_) (r2.ext ?_)).mono ?_);exact eA;exact eA;rintro e ab ⟨rfl,b⟩;obtain⟨ae,ah⟩:=b.cells;(have aG:g<ab.heap.size:=by have:=b.size;omega))|(go_at_call 48;(with_reducible refine(zg4 _ _ _ _ _ _ _ _ _ _ _ _ _ _ _ (r3.ext ?_) (r4.ext ?_)).mono ?_);exact eA;exact eA;rintro e ac ⟨rfl,c⟩;obtain⟨af,ai⟩:=c.cells;(have aH:g<ac.heap.size:=by have:=c.size;omega))|(go_at_call 48;(with_reducible refine(zg4 _ _ _ _ _ _ _ _ _ _ _ _ _ _ _ (r5.ext ?_) (r6.ext ?_)).mono ?_);exact eA;exact eA;rintro e ad ⟨rfl,d⟩;obtain⟨ag,aj⟩:=d.cells;(have aI:g<ad.heap.size:=by have:=d.size;omega)))
 go_ret;exact⟨rfl,((E.out.trans b).trans c).trans d⟩
end
section
open Go.RowKit Go.Shelf Go.Sort
attribute [local go_sem] Oper.semAt_some
theorem laid1_holds {g:List (Int×Int)}:∀{c done:List Pl},laid1 g done c=0→∀p∈c,holdsB g p=true
 | [],_,_,p,b=>by cases b
 | q::r,done,h,p,b=>by
  unfold laid1 at h
  by_cases a:addE g done q=0
  ·rw [if_pos a]at h
   rcases List.mem_cons.1 b with rfl|b
   ·cases hk:holdsB g p with
    | true=>rfl
    | false=>unfold addE at a;rw [hk]at a;split at a<;>simp at a
   ·exact laid1_holds h p b
  ·rw [if_neg a]at h;exact absurd h a
theorem zcs {g:List (Int×Int)} {p:Pl} (c:placedOk p=true) (a:holdsB g p=true):(btw (lowP2 p) g).lo<(btw (lowP2 p) g).hi:=by
 have b:=zjY c;unfold holdsB at a;simp only [Bool.and_eq_true,decide_eq_true_eq]at a;unfold btw;dsimp only;omega
def Ck1 (w:X) (g:List (Int×Int)) (ps:List Pl) (a:Obj) (t3:J) (W:X):Prop:=
 ∃i:Nat,t3=V I i∧i≤ps.length∧Ext w W∧W.heap[w.heap.size]?=N a∧laid1 g (ps.take i) (ps.drop i)=laid1 g [] ps
def Ck1i (b:X) (ps:List Pl) (a:ByteArray) (i:Nat) (t4:J) (W:X):Prop:=
 ∃k:Nat,t4=V I k∧k≤i∧Ext b W∧∀j q,j<k→ps[j]?=N q→nameB a q=false
def Ck2 (w:X) (g:List (Int×Int)) (ps:List Pl) (a:Obj) (t5:J) (W:X):Prop:=
 ∃i:Nat,t5=V I i∧i≤ps.length∧Ext w W∧W.heap[w.heap.size]?=N a∧laid2 g (ps.take i) (ps.drop i)=laid2 g [] ps
def Ck2i (b:X) (ps:List Pl) (p:Pl) (i:Nat) (a:J) (W:X):Prop:=
 ∃k:Nat,a=V I k∧k≤i∧Ext b W∧∀j q,j<k→ps[j]?=N q→clashB p q=false
theorem zeT {ps:List Pl} {f:Pl→Bool} {i:Nat} (h:∀j q,j<i→ps[j]?=N q→f q=false):(ps.take i).any f=false:=by
 rw [List.any_eq_false];intro q c;obtain⟨j,b,rfl⟩:=List.getElem_of_mem c;have a:=b;rw [List.length_take]at a;have:=h j ((ps.take i)[j]) oM (by rw [List.getElem_take];exact gE _);rw [this];decide
theorem zdg {ps:List Pl} {f:Pl→Bool} {i k:Nat} {q:Pl} (b:k<i) (c:ps[k]?=N q) (a:f q=true):(ps.take i).any f=true:=by
 rw [List.any_eq_true];exact⟨q,lM (i:=k) (by rw [List.getElem?_take,if_pos b];exact c),a⟩
end
end Go.Proofs.YtjnjpagegkcgfaaGreatDoor.Cop
