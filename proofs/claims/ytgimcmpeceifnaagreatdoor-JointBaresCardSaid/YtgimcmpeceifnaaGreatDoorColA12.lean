import Derived.Test.YtgimcmpeceifnaaGreatDoorColA11
import Derived.Test.YtgimcmpeceifnaaGreatDoorRows
import Derived.Test.YtgimcmpeceifnaaGreatDoorCards
import Derived.Test.YtgimcmpeceifnaaGreatDoorTie
import Derived.LaidMore
import Derived.Stop.Joined
import Derived.OpenShut
import Derived.SevenTiedAt
set_option maxRecDepth 1000000
set_option maxHeartbeats 16000000
set_option linter.all false
open Go.Value renaming int->O,slice->X,pointer->N,agg->G
open Go.IntKind renaming i64->Y
open Option renaming none->Z,some->I
open Go renaming World->V,Value->F
open Go.Obj renaming cells->M
namespace Go.Proofs.YtgimcmpeceifnaaGreatDoor.Cop
section
open Go.RowKit Go.Shelf Go.Sort
def Yj:Ru:=⟨1,0,20,50,10,100,5⟩
def Dz(w:V):Calls Tryz.prog 35 #[] w fun e a=>e=.returned (G (xg Yj))/\Ba w a:=by go_in;go_wp2;refine bR (v:=G (xg Yj)) (by simp[results,Tryz.results35,go_sem,xg,Yj]) rfl ⟨rfl,eA⟩
def Zs(w:V)(f:ByteArray)(x z:Int):Calls Tryz.prog 73 #[.string f,O Y x,O Y z] w fun e g=>∃v,e=.returned (G (Dd (La f x z) v))/\Ja g v Lj/\Ba w g:=by go_in;go_wp2_with(go_at_call 106;(with_reducible refine(TR _).mono ?_);rintro e i ⟨p,rfl,a,b⟩;obtain⟨j,l,k,rfl⟩:=Ma a;obtain⟨c,d⟩:=b.cells;(have o:=b.size);(simp only[wZ]at o);(have m:w.heap.size<i.heap.size:=oM);(have n:¬w.heap.size=i.heap.size:=oM));refine bR (v:=G (Dd (La f x z) (X j l k))) (by simp[results,Tryz.results73,go_sem,Dd,La,c,d,m,n]) rfl ⟨_,rfl,?_,eA⟩;exact a.E kA
end
section
open Go Go.ChangeShapes Go.WideShapes Go.ChangeAt Go.RowKit
def MM:ownKnob Tryz.prog.godebug=none:=kM
def jq:Tryz.prog.globalNamed "copestone/stone.ways" = some 0:=kM
def Xp:(Tryz.prog.globals[0]?).map (·.type)=some 283:=kM
def pM:Tryz.prog.underlying 283=some (.array 4 282):=kM
def lv:Tryz.prog.underlying 282=some (.func #[91] #[91] false):=kM
def jy:laidOutB Tryz.prog=true:=kM
def iS{W:World}(h:laidMetH Tryz.prog [("copestone/stone.ways",Rows.laid_copestone_stone_ways)] W):Gw W:=by
 obtain⟨g,t,a,fuel,p,c,q,hv,o⟩:=h.funcs (List.mem_singleton.2 rfl);obtain rfl:=Option.some.inj (jq.symm.trans c);obtain rfl:=Option.some.inj (Xp.symm.trans q);have d:DataW.trod (funcToken Tryz.prog) Tryz.prog W 0 (fun _=>true) true fuel 283 a.toList=some (.agg [.held [99,111,112,101,115,116,111,110,101,47,115,116,111,110,101,46,119,97,121,115,36,49],.held [99,111,112,101,115,116,111,110,101,47,115,116,111,110,101,46,119,97,121,115,36,50],.held [99,111,112,101,115,116,111,110,101,47,115,116,111,110,101,46,119,97,121,115,36,51],.held [99,111,112,101,115,116,111,110,101,47,115,116,111,110,101,46,119,97,121,115,36,52]],p):=o;obtain⟨L,m,_,k,j,f,b⟩:=DataW.trod_array pM d;have l:Tryz.prog.cellsOf 282=1:=kM;have n:Tryz.prog.cellsOf 283=4:=kM;rw[n]at j;rw[l]at b;obtain⟨a⟩:=a;have e:a.length=4:=j
 match a,e,L,f with
 | [v0,v1,v2,v3],_,[⟨y0,R⟩,⟨y1,q1⟩,⟨y2,q2⟩,⟨y3,q3⟩],_ =>
  simp only[Prod.mk.injEq,List.map_cons,List.map_nil,DataW.agg.injEq,List.cons.injEq,and_true]at k;obtain⟨⟨rfl,rfl,rfl,rfl⟩,_⟩:=k;have x:=b 0 oM;have y:=b 1 oM;have z:=b 2 oM;have K:=b 3 oM;have r:=World.var?_cell c hv 0;have s:=World.var?_cell c hv 1;have u:=World.var?_cell c hv 2;have v:=World.var?_cell c hv 3;obtain rfl:=func_of_trod (f0:=344) lv kM x;obtain rfl:=func_of_trod (f0:=345) lv kM y;obtain rfl:=func_of_trod (f0:=346) lv kM z;obtain rfl:=func_of_trod (f0:=347) lv kM K;have i:W.cell? ⟨0,0,none⟩=some (.func (.func 344) #[] #[]):=by simpa using r
  exact⟨World.block_lt_of_cell? W _ (by rw[i]),i,by simpa using s,by simpa using u,by simpa using v⟩
def IN(os:Os)(args:Array Value):laidMetH Tryz.prog [("copestone/stone.ways",Rows.laid_copestone_stone_ways)] ((World.doorLaid Tryz.prog 14 os).forCall (fun _ _=>0) ⟨#[],args,[]⟩).memory:=
 laidMetH_of_parts3 (fuel:=8) (laidMet_of_run' 8 kM kM) kM kM
end
section
open Go.ChangeShapes Go.WideShapes Go.Deep
section
variable {H:Type} {enc:TypeId×Value->H} {w:World} {spare:Nat->Bool} {held:Bool}
def IB:Tryz.prog.underlying 27=some (.struct (Qm Tryz.prog 27)):=kM
def qT{r:Reach}{b0:Nat}{v:Value}{d:DataW H}{p:List MemPlace}(hv:Value.okWide Tryz.prog w r b0 27 v)(h:DataW.Trod enc Tryz.prog w 0 spare held 27 v d p):∃ru:Ru,v = .agg (xg ru):=by
 obtain⟨n,rfl,l⟩:=okWide_struct IB hv;have hc:Tryz.prog.cellsOf 27=7:=kM;rw[hc]at l;obtain⟨c0,c1,c2,c3,c4,c5,c6,rfl⟩:∃a b c d e f g,n=#[a,b,c,d,e,f,g]:=by
  match n,l with
  | ⟨[a,b,c,d,e,f,g]⟩,_=>exact⟨a,b,c,d,e,f,g,rfl⟩
 obtain⟨fuel,hf⟩:=h;obtain⟨xs,m,_,_,hl,k,j⟩:=DataW.trod_struct IB hf;obtain⟨y0,h0⟩:=tj k j (i:=0) (ti:=5) (oi:=0) (ki:=1) kM;obtain⟨y1,h1⟩:=tj k j (i:=1) (ti:=3) (oi:=1) (ki:=1) kM;obtain⟨y2,h2⟩:=tj k j (i:=2) (ti:=3) (oi:=2) (ki:=1) kM;obtain⟨y3,h3⟩:=tj k j (i:=3) (ti:=3) (oi:=3) (ki:=1) kM;obtain⟨y4,h4⟩:=tj k j (i:=4) (ti:=3) (oi:=4) (ki:=1) kM;obtain⟨y5,h5⟩:=tj k j (i:=5) (ti:=3) (oi:=5) (ki:=1) kM;obtain⟨y6,h6⟩:=tj k j (i:=6) (ti:=3) (oi:=6) (ki:=1) kM;obtain⟨z,e0,_⟩:=DataW.trod_int GB h0;obtain⟨K,e1,_⟩:=DataW.trod_int mm h1;obtain⟨L,e2,_⟩:=DataW.trod_int mm h2;obtain⟨R,e3,_⟩:=DataW.trod_int mm h3;obtain⟨W,e4,_⟩:=DataW.trod_int mm h4;obtain⟨z5,e5,_⟩:=DataW.trod_int mm h5;obtain⟨z6,e6,_⟩:=DataW.trod_int mm h6;have o:[c0]=[.int .u8 z]:=e0;have q:[c1]=[.int .i64 K]:=e1;have s:[c2]=[.int .i64 L]:=e2;have t:[c3]=[.int .i64 R]:=e3;have u:[c4]=[.int .i64 W]:=e4;have x:[c5]=[.int .i64 z5]:=e5;have y:[c6]=[.int .i64 z6]:=e6;simp only[List.cons.injEq,and_true]at o q s t u x y;exact⟨⟨z,K,L,R,W,z5,z6⟩,by unfold xg;rw[o,q,s,t,u,x,y]⟩
end
end
section
open Go.RowKit Go.Shelf Go.Sort
def Ac:List Pl:=[La ⟨#[97]⟩ 0 0,La ⟨#[98]⟩ 200 0,La ⟨#[99]⟩ 0 80,La ⟨#[100]⟩ 200 80,La ⟨#[101]⟩ 100 160]
def rO(w:V):Calls Tryz.prog 34 #[] w fun e L=>∃vg vp,e=.returned (G #[vg,vp])/\Ja L vg Ec/\uj L w.heap.size vp Ac/\Ba w L:=by
 go_in;go_wp2_with(go_at_call 73;(with_reducible refine(Zs _ ⟨#[97]⟩ 0 0).mono ?_);rintro e w1 ⟨v1,rfl,o,l⟩;obtain⟨a1,n1,c1,rfl⟩:=Ma o;(unfold Dd La);dsimp only);go_wp2_with(go_at_call 73;(with_reducible refine(Zs _ ⟨#[98]⟩ 200 0).mono ?_);rintro e w2 ⟨v2,rfl,r,g⟩;obtain⟨a2,n2,c2,rfl⟩:=Ma r;(unfold Dd La);dsimp only);go_wp2_with(go_at_call 73;(with_reducible refine(Zs _ ⟨#[99]⟩ 0 80).mono ?_);rintro e w3 ⟨v3,rfl,s,d⟩;obtain⟨a3,n3,c3,rfl⟩:=Ma s;(unfold Dd La);dsimp only);go_wp2_with(go_at_call 73;(with_reducible refine(Zs _ ⟨#[100]⟩ 200 80).mono ?_);rintro e w4 ⟨v4,rfl,t,c⟩;obtain⟨a4,n4,c4,rfl⟩:=Ma t;(unfold Dd La);dsimp only);have R:Ja w1 (X (I ⟨w.heap.size+1,0,Z⟩) 2 2) Ec:=(lC (w.alloc (M #[X Z 0 0,X Z 0 0] 39)) sM Ec dM).f l;have W:=l.e (UC w (M #[X Z 0 0,X Z 0 0] 39) (M #[O Y (-1000),O Y 0,O Y 1000,O Y 0] 91));have K4:=c.e (d.e (g.e W));have z:=Aa R;clear W R;go_wp2_with(go_at_call 73;(with_reducible refine(Zs _ ⟨#[101]⟩ 100 160).mono ?_);rintro e f ⟨v5,rfl,x,a⟩;obtain⟨a5,n5,c5,rfl⟩:=Ma x;(unfold Dd La);dsimp only;(have j:=a.e K4);(have k0:=Da j (i:=0) (u:=X Z 0 0) rfl);(have k1:=Da j (i:=1) (u:=X Z 0 0) rfl);(have kf:=Za j);(have kz:=Ya j);(have kn:¬w.heap.size=f.heap.size:=oM));obtain⟨n,b⟩:=gX ((f.setCell ⟨w.heap.size,0,Z⟩ (X (I ⟨w.heap.size+1,0,Z⟩) 2 2)).setCell ⟨w.heap.size,1,Z⟩ (X (I ⟨f.heap.size,0,Z⟩) 5 5));have m:Ka 91 f n:=by
  rw[<-b];have h1:=(Ka.refl 91 f).set (p:=⟨w.heap.size,0,Z⟩) j dM (X (I ⟨w.heap.size+1,0,Z⟩) 2 2);exact h1.set (p:=⟨w.heap.size,1,Z⟩) (Kh j 0 _) dM _
 have hz:n.heap.size=f.heap.size:=by rw[<-b];simp only[Wf]
 have K:n.heap[w.heap.size]?=I (M #[X (I ⟨w.heap.size+1,0,Z⟩) 2 2,X (I ⟨f.heap.size,0,Z⟩) 5 5] 39 (0,0)):=by
  rw[<-b];exact Kh (Kh j 0 _) 1 _
 have hX:Ba w n:=by
  rw[<-b];exact(Ba.set (Ba.set (((((((eR w).alloc _).alloc _).trans l).trans g).trans d).trans c |>.trans a) (nE _) _) (nE _) _)
 rw[b];clear b;have b0:=Da K (i:=0) (u:=X (I ⟨w.heap.size+1,0,Z⟩) 2 2) rfl;have b1:=Da K (i:=1) (u:=X (I ⟨f.heap.size,0,Z⟩) 5 5) rfl;have bz:=Ya K;have y:=XO n (k:=f.heap.size) (base:=w.heap.size) hz.symm oM [(La ⟨#[97]⟩ 0 0,X a1 n1 c1),(La ⟨#[98]⟩ 200 0,X a2 n2 c2),(La ⟨#[99]⟩ 0 80,X a3 n3 c3),(La ⟨#[100]⟩ 200 80,X a4 n4 c4),(La ⟨#[101]⟩ 100 160,X a5 n5 c5)] (by
  intro q y;simp only[List.mem_cons,List.not_mem_nil,or_false]at y;rcases y with rfl|rfl|rfl|rfl|rfl
  ·exact⟨(((((o.f g).f d).f c).f a)).E m,by unfold La;dsimp only;omega⟩
  ·exact⟨((((r.f d).f c).f a)).E m,by unfold La;dsimp only;omega⟩
  ·exact⟨(((s.f c).f a)).E m,by unfold La;dsimp only;omega⟩
  ·exact⟨((t.f a)).E m,by unfold La;dsimp only;omega⟩
  ·exact⟨x.E m,by unfold La;dsimp only;omega⟩) sM
 refine bR (v:=G #[X (I ⟨w.heap.size+1,0,Z⟩) 2 2,X (I ⟨f.heap.size,0,Z⟩) 5 5]) (by simp[results,Tryz.results34,go_sem,b0,b1,bz]) rfl ⟨_,_,rfl,?_,?_,hX.alloc _⟩
 ·exact((((((z.o.f g).f d).f c).f a)).E m).f ((eR _).alloc _)
 ·exact y
def Ox(w:V):Calls Tryz.prog 34 #[] w fun e a=>∃vg vp,e=.returned (G #[vg,vp])/\Ja a vg Ec/\Jd a vp Ac/\Ba w a:=
 (rO w).mono fun _ _ ⟨vg,vp,d,b,c,f⟩=>⟨vg,vp,d,b,c.pls,f⟩
def MU(w:V)(xs:List Int)(g:Nat)(a:F)(W:V):Prop:=
 ∃i:Nat,i<=xs.length/\a=O Y i/\g=xs.length-i/\W=w/\∀j y,j<i->xs[j]?=I y->y=0
def FK(w:V)(v:F)(xs:List Int)(h:Jc 3 w v xs):Calls Tryz.prog 109 #[v] w fun e w'=>e=.returned (O Y (Fh xs))/\w'=w:=by
 obtain⟨a,c,rfl⟩:=h.form;obtain⟨n,r⟩:=gX xs.length;rw[r]at h ⊢;have m:=h.le;unfold maxLen at m;have aa:n<=9223372036854775807:=oM;have f:=Aa r;clear r m;go_in;go_wp2;go_loopg [8] n (MU w xs)
 case atStart=>exact⟨0,by omega,rfl,by rw[f.o];rfl,rfl,fun j y W=>by omega⟩
 case round =>
  obtain⟨i,R,rfl,rfl,rfl,g⟩:=hrel;rw[f.o]at R;have d:=Aa g;clear g;by_cases q:i<n
  ·obtain⟨x,s⟩:∃x,xs[i]?=I x:=⟨xs[i]'(by rw[f.o];omega),by simp[f.o,q]⟩;obtain⟨b,o,rfl,hb,u⟩:=h.open (by rw[f.o];omega);have L:=u i x s;have t:=Aa s;clear s u;by_cases l:x=0
   ·subst l;go_wp2;go_roundg (n-(i+1))
    case measure=>have:=f.o;omega
    case rel =>
     refine⟨i+1,by have:=f.o;omega,by go_num,by rw[f.o],rfl,fun j y W k=>?_⟩;by_cases p:j=i
     ·subst p;rw[t.o]at k;cases k;rfl
     ·exact d.o j y oM k
   ·have e:Fh xs=x:=Jw t.o l d.o;have E:=Aa e;(have z:(x != 0)=true:=by simpa using l);(have K:(x==0)=false:=by simpa using l);clear e l;go_wp2;go_ret;exact⟨by rw[E.o];rfl,rfl⟩
  ·obtain rfl:i=n:=oM;have e:Fh xs=0:=iy (fun j y k=>d.o j y (by have:=(lS.1 k).1;rw[f.o]at this;exact this) k);have E:=Aa e;clear e;go_wp2;go_ret;exact⟨by rw[E.o];rfl,rfl⟩
def JQ(w:V)(v:F)(xs:List Int)(h:Jc 3 w v xs):Calls Tryz.prog 78 #[v] w fun e g=>e=.returned (O Y (Fh xs))/\g=w:=by obtain⟨x,d⟩:=gX (Fh xs);have b:=FK w v xs h;rw[d]at *;have f:=Aa b;obtain⟨a,c,rfl⟩:=h.form;clear b d;go_in;go_wp2_with(((go_at_call 109;(with_reducible refine f.o.mono ?_);rintro e i ⟨rfl,rfl⟩)));go_ret;exact⟨rfl,rfl⟩
def Mt(W:V){k:Nat}(a:k=W.heap.size)(x y z u:Int):Jc 3 (W.alloc (M #[O Y x,O Y y,O Y z,O Y u] 3)) (X (I ⟨k,0,Z⟩) 4 4) [x,y,z,u]:=by
 subst a;refine⟨rfl,_,_,rfl,nE _,by unfold maxLen;omega,.inr ⟨W.heap.size,0,_,_,rfl,aN W _,?_⟩⟩;intro i v hv
 match i,hv with
 | 0,hv=>simpa[nc] using hv
 | 1,hv=>simpa[nc] using hv
 | 2,hv=>simpa[nc] using hv
 | 3,hv=>simpa[nc] using hv
 | i+4,hv=>simp[nc]at hv
def Ug(p q:Jt):Int:=Fh [p.fr-q.fr,p.left-q.left,p.a-q.a,p.b-q.b]
instance:Inhabited {j // Ri j}:=⟨⟨⟨0,0,0,0,0,0⟩,by unfold Ri Bd;decide⟩⟩
def Bo(p q:Jt):Ug p q<0 ↔ (p.fr<q.fr\/(p.fr=q.fr/\(p.left<q.left\/(p.left=q.left/\(p.a<q.a\/(p.a=q.a/\p.b<q.b)))))):=by
 unfold Ug Fh Fh Fh Fh Fh
 repeat' split
 all_goals omega
def uw(x y:{j // Ri j}):ltOf (fun x y:{j // Ri j}=>Ug x.1 y.1) x y=decide (Ug x.1 y.1<0):=rfl
def Kz:SWO (ltOf fun x y:{j // Ri j}=>Ug x.1 y.1) where
 irrefl x:=by rw[uw,decide_eq_false_iff_not,Bo];omega
 trans x y z h1 h2:=by rw[uw,decide_eq_true_eq,Bo]at *;omega
 ntrans x y z h1 h2:=by rw[uw,decide_eq_false_iff_not,Bo]at *;omega
def ON(x y:{j // Ri j})(W:V):Calls Tryz.prog 77 #[G (ij x.1),G (ij y.1)] W fun e w'=>e=.returned (O Y (Ug x.1 y.1))/\∃q os',w'=grow (W.drewN q) os':=by obtain⟨⟨a,b,l,r,f,t⟩,c,d,g,i,k,m⟩:=x;obtain⟨⟨z,K,R,r',L,t'⟩,n,o,p,s,u,v⟩:=y;unfold Ug ij;dsimp only[Bd]at c d g i k m n o p s u v ⊢;have d1:-9223372036854775808<=f-L:=oM;have d2:f-L<=9223372036854775807:=oM;have d3:-9223372036854775808<=l-R:=oM;have d4:l-R<=9223372036854775807:=oM;have d5:-9223372036854775808<=a-z:=oM;have d6:a-z<=9223372036854775807:=oM;have d7:-9223372036854775808<=b-K:=oM;have d8:b-K<=9223372036854775807:=oM;clear c d g i k m n o p s u v;obtain⟨x,hx⟩:=gX (Fh [f-L,l-R,a-z,b-K]);rw[hx];have HX:=Aa hx;clear hx;go_in;go_wp2_with(go_at_call 78;(with_reducible refine(JQ _ (X (I ⟨W.heap.size+1+1,0,Z⟩) 4 4) [f-L,l-R,a-z,b-K] (Mt _ sM _ _ _ _)).mono ?_);rw[HX.o];rintro e w3 ⟨rfl,rfl⟩);go_ret;exact⟨rfl,0,_,by rw[alloc_eq_grow,alloc_eq_grow,grow_grow,alloc_eq_grow,grow_grow];rfl⟩
def Wm(blk a size:Nat)(w:V):CmpLays Tryz.prog 77 #[] (fun x:{j // Ri j}=>Sg x.1) 6 (fun x y=>Ug x.1 y.1) blk a size w:=
 fun _ _ _ _ x y=>ON x y _
def ju(w:V)(base:Nat)(v:F)(l:List Jt)(e:Ending)(w':V):Prop:=
 e=.returned (.tuple #[])/\∃l':List Jt,l'.Perm l/\l'.Pairwise (fun a b=>¬Ug b a<0)/\Fa 82 6 w' base v (l'.map Sg)/\w.grownBy w' v.ownBlock
def ZO(w:V)(base:Nat)(v:F)(l:List Jt)(h:Fa 82 6 w base v (l.map Sg))(u:∀j∈l,Ri j)(aa:l.length<=1000000):Calls Tryz.prog 76 #[v,.func (.func 77) #[] #[]] w (ju w base v l):=by
 obtain⟨a,n,c,rfl⟩:=h.i;have k:=h.len;rw[lL]at k;by_cases s:l=[]
 ·subst s;simp at k;subst k;refine(ES w a c _).mono ?_;rintro e w' ⟨rfl,rfl⟩;exact⟨rfl,[],List.Perm.refl _,List.Pairwise.nil,h,⟨rfl,rfl,rfl,nE _,fun _ _ _=>rfl⟩⟩
 obtain⟨g,rfl,_⟩:=h.blk (by rw[lL];exact List.length_pos_iff.2 s);obtain⟨d,z⟩:=gX ((l.attachWith Ri u).toArray);have b:d.size=n:=by rw[<-z,k,List.size_toArray];exact List.length_attachWith
 have f:d.toList.map (·.1)=l:=by rw[<-z];exact At u
 have o:d.toList.map (fun x=>Sg x.1)=l.map Sg:=by
  rw[show (fun x:{j // Ri j}=>Sg x.1)=Sg ∘ (·.1)from rfl,<-List.map_map,f]
 have hg:=(h.lt g rfl).2;have eg:∀args w,(callFunc 77 args).run Tryz.prog w = .ok (.enter 77 args) w:=enters_of Tryz.func77 kM rfl;have r:Fa 82 6 w base (X (I ⟨g,0,Z⟩) n c) (d.toList.map fun x=>Sg x.1):=by rw[o];exact h
 have hH:=VF (enc:=fun x:{j // Ri j}=>Sg x.1) (fun _=>rfl) r;have hO:∀x:{j // Ri j},∀v∈Sg x.1,v.oneCell'=true:=fun x v hv=>by
  simp[Sg,ij]at hv;rcases hv with rfl|rfl|rfl|rfl|rfl|rfl<;>rfl
 have R:=AnyQ.slices_SortFunc (P:=Tryz.prog) (ρ:=Tryz.sortJoint_ren) Tryz.sortJoint 6 Tryz.isAgg82 Tryz.sizeOf82 (fun x:{j // Ri j}=>Sg x.1) (fun _=>rfl) hO (fun x y=>Ug x.1 y.1) Kz 77 #[] g 0 c d w eg (Wm g 0 d.size w) hH hg oM;rw[b]at R;refine R.mono ?_;rintro e w' ⟨rfl,d',m,os,⟨q1,_,q⟩,W,rfl⟩;rw[<-b]at q W;have q4:d'.toList.Perm d.toList:=by
  have e1:d'.extract 0 d.size=d':=by rw[<-q1];exact Array.extract_size
  rw[e1,Array.extract_size]at q;exact q
 refine⟨rfl,d'.toList.map (·.1),?_,?_,?_,WC _⟩
 ·rw[<-f];exact q4.map _
 ·rw[List.pairwise_map,List.pairwise_iff_getElem];intro i j K L p;simp at K L;have t:=W i j (Nat.zero_le _) p oM;rw[uw,getElem!_pos d' i K,getElem!_pos d' j L,decide_eq_false_iff_not]at t;simpa using t
 ·have:=OF (m:=m) (os:=os) (enc:=fun x:{j // Ri j}=>Sg x.1) (fun _=>rfl) (d':=d') r q1;rw[List.map_map];exact this
end
section
open Go.RowKit Go.Shelf Go.Sort Go.Lib
end
section
open Go.RowKit Go.Shelf Go.Sort
def zU(w:V)(ps:LP)(g:Nat)(t3 t4:F)(W:V):Prop:=
 ∃i:Nat,i<=ps.length/\t4=O Y (i:Nat)/\g=ps.length-i/\Ba w W/\Fa 91 2 W w.heap.size t3 ((ps.take i).map pc)
def XE(w:V)(v:F)(ps:LP)(h:Ab w v ps)(ab:ps.length<=1000):Calls Tryz.prog 39 #[v] w fun e u=>∃v',e=.returned v'/\Fa 91 2 u w.heap.size v' (ps.map pc)/\Ba w u:=by
 obtain⟨a,c,rfl⟩:=h.form;obtain⟨n,hn⟩:=gX ps.length;rw[hn]at h ab ⊢;have p:=Aa hn;have H:=Aa h;obtain⟨R,hR⟩:∃R:Ending->V->Prop,(fun e u=>∃v',e=.returned v'/\Fa 91 2 u w.heap.size v' (ps.map pc)/\Ba w u)=R:=⟨_,rfl⟩;rw[hR];have HR:=Aa hR;clear hn h hR;go_in;go_wp2;go_loopg [3,4] n (zU w ps)
 case atStart=>exact⟨0,by omega,rfl,by rw[p.o];rfl,eR _,by simpa using Fa.nil _ _ _ _⟩
 case round =>
  obtain⟨i,hi,rfl,rfl,L,d⟩:=hrel;rw[p.o]at hi;obtain⟨va,vn,vc,rfl⟩:=d.i;have f:=Aa d;have W:=Aa L;by_cases aa:i<n
  ·obtain⟨⟨x,z⟩,r⟩:∃q,ps[i]?=I q:=⟨ps[i]'(by rw[p.o];omega),by simp[p.o,aa]⟩;obtain⟨b,o,rfl,hb,d0,d1⟩:=(H.o.f L).at' r;obtain⟨b0,o0,e0,ae,_⟩:=H.o.at' r;cases e0;dsimp only at d0 d1;have Hq:=Aa r;have p1:(0:Int)<=(i:Int):=oM;have p2:(i:Int)<(n:Int):=oM;clear r L d;go_wp2;refine od [(⟨b,o+i*2,Z⟩,O Y x),(⟨b,o+i*2+1,Z⟩,O Y z)] ⟨d0,d1,trivial⟩ fun l=>?_;refine sN 0 ?_
   iterate 12 refine ub ?_
   refine oN ?_;refine ye (i:=12) fun K s=>?_;go_simp;refine kO s (cE l ((eR _).alloc _)) (fun l=>?_);clear s K;have y:Ba wr ((wr.alloc (M #[O Y x,O Y z] 91)).drew):=((eR wr).alloc _).drew;refine ye (i:=13) fun K s=>?_;refine Vo (T:=91) (t:=36) (z:=G #[O Y 0,O Y 0]) (k:=2) (bytes:=16) (v:=X va vn vc) (base:=w.heap.size) Zn rfl dM dM Tryz.underlying36 rfl _ _ rfl rfl (f.o.ext y) (ad:=⟨wr.heap.size,0,Z⟩) (m:=1) (c:=1) rfl [pc (x,z)] rfl (by simp[pc]) (by exact Zw wr x z 91) (Fp x z) (by rw[lL,List.length_take];omega) (by have:=y.size;have:=W.o.size;omega) ?_;intro v' w9 j g ac;obtain⟨a9,n9,c9,rfl⟩:=j.i;have zb:b<wr.heap.size:=hb;refine kO s (Ea.grown l g (fun q r e=>?_)) (fun l=>?_)
   ·have h9:=(f.o.lt _ e.symm).1;simp at r;rcases r with rfl|rfl<;>(dsimp only at h9;omega)
   clear s K;refine Qa (i:=14) ?_;refine Tb ?_;go_wp2;go_roundg (n-(i+1))
   case measure=>have:=p.o;omega
   case rel =>
    refine⟨i+1,by have:=p.o;omega,by go_num,by rw[p.o],(W.o.trans y).D (Yg (base:=w.heap.size) g (by have:=y.size;have:=W.o.size;omega) (fun k hk=>(f.o.lt k hk).1)) (nE _),?_⟩;rw[Ce _ _ _ Hq.o,List.map_append];exact j
  ·obtain rfl:n=i:=oM;have e:ps.take n=ps:=lT (by rw[p.o];exact nE _);rw[e]at d;go_wp2;rw[<-HR.o];exact⟨_,rfl,d,L⟩
def DN(w:V)(t:ByteArray)(v:F)(sh:LP)(d l m o:Int)(h:Ab w v sh)(ac:sh.length<=1000):Calls Tryz.prog 79 #[G #[.string t,v,O Y d,O Y l,O Y m,O Y o]] w fun e w'=>∃v',e=.returned (G #[.string t,v',O Y d,O Y l,O Y m,O Y o])/\Ja w' v' sh/\Ba w w'/\∀j,v'.ownBlock=I j->w.heap.size<=j:=by
 have HP:=Aa (fun W (hW:Ba w W)=>XE W v sh (h.f hW) ac);obtain⟨a,n,c,rfl⟩:=h.i;clear h;go_in;go_wp2;refine od [(⟨w.heap.size,0,Z⟩,.string t),(⟨w.heap.size,1,Z⟩,X a n c),(⟨w.heap.size,2,Z⟩,O Y d),(⟨w.heap.size,3,Z⟩,O Y l),(⟨w.heap.size,4,Z⟩,O Y m),(⟨w.heap.size,5,Z⟩,O Y o)] cA fun r=>?_;refine sN 0 ?_
 iterate 4 refine ub ?_
 refine oN ?_;refine sN 5 ?_
 iterate 11 refine ub ?_
 refine oN ?_;refine mc (i:=4) (HP.o _ eA) ?_;rintro e w3 ⟨v3,rfl,f,x⟩;obtain⟨z,R,L,rfl⟩:=f.i;refine⟨_,rfl,(cE r x),fun r=>?_⟩;refine Qa (i:=16) ?_;have ad:=f.pts;have k:=x.e (Gy w (M #[.string t,X a n c,O Y d,O Y l,O Y m,O Y o] 76) (M #[.string ⟨#[]⟩,X Z 0 0,O Y 0,O Y 0,O Y 0,O Y 0] 93));have k0:=Da k (i:=0) (u:=.string ⟨#[]⟩) rfl;have k1:=Da k (i:=1) (u:=X Z 0 0) rfl;have k2:=Da k (i:=2) (u:=O Y 0) rfl;have k3:=Da k (i:=3) (u:=O Y 0) rfl;have k4:=Da k (i:=4) (u:=O Y 0) rfl;have k5:=Da k (i:=5) (u:=O Y 0) rfl;have kf:=Za k;have g:=Aa (show ∀q∈[((⟨w.heap.size,0,Z⟩:Addr),Value.string t),(⟨w.heap.size,1,Z⟩,X a n c),(⟨w.heap.size,2,Z⟩,O Y d),(⟨w.heap.size,3,Z⟩,O Y l),(⟨w.heap.size,4,Z⟩,O Y m),(⟨w.heap.size,5,Z⟩,O Y o)],w.heap.size+1≠q.1.block from fun q hq h=>by
  simp at hq;rcases hq with rfl|rfl|rfl|rfl|rfl|rfl<;>(dsimp only at h;omega))
 have aa:Ba w w3:=((((eR w).alloc _).alloc _).drew).trans x;have b:=Aa k;clear k;refine ye (i:=17) fun K hK=>?_;go_simp;refine kO hK (Ea.set (p:=⟨w.heap.size+1,5,Z⟩) (Ea.set (p:=⟨w.heap.size+1,4,Z⟩) (Ea.set (p:=⟨w.heap.size+1,3,Z⟩) (Ea.set (p:=⟨w.heap.size+1,2,Z⟩) (Ea.set (p:=⟨w.heap.size+1,1,Z⟩) (Ea.set (p:=⟨w.heap.size+1,0,Z⟩) r g.o _) g.o _) g.o _) g.o _) g.o _) g.o _) (fun r=>?_);clear hK K;refine Tb ?_;go_wp2;obtain⟨W5,s⟩:=gX (((((((w3.setCell ⟨w.heap.size+1,0,Z⟩ (.string t)).setCell ⟨w.heap.size+1,1,Z⟩ (X z R L)).setCell ⟨w.heap.size+1,2,Z⟩ (O Y d)).setCell ⟨w.heap.size+1,3,Z⟩ (O Y l)).setCell ⟨w.heap.size+1,4,Z⟩ (O Y m)).setCell ⟨w.heap.size+1,5,Z⟩ (O Y o)));have y:W5.heap[w.heap.size+1]?=I (M #[.string t,X z R L,O Y d,O Y l,O Y m,O Y o] 93 (0,0)):=by
  rw[<-s];exact Kh (Kh (Kh (Kh (Kh (Kh b.o 0 _) 1 _) 2 _) 3 _) 4 _) 5 _
 have hk:Ka 91 w3 W5:=by
  rw[<-s];exact(((((Ka.refl 91 w3).set (p:=⟨w.heap.size+1,0,Z⟩) b.o dM _).set (p:=⟨w.heap.size+1,1,Z⟩) (Kh b.o 0 _) dM _).set (p:=⟨w.heap.size+1,2,Z⟩) (Kh (Kh b.o 0 _) 1 _) dM _).set (p:=⟨w.heap.size+1,3,Z⟩) (Kh (Kh (Kh b.o 0 _) 1 _) 2 _) dM _).set (p:=⟨w.heap.size+1,4,Z⟩) (Kh (Kh (Kh (Kh b.o 0 _) 1 _) 2 _) 3 _) dM _ |>.set (p:=⟨w.heap.size+1,5,Z⟩) (Kh (Kh (Kh (Kh (Kh b.o 0 _) 1 _) 2 _) 3 _) 4 _) dM _
 have ab:Ba w W5:=by
  rw[<-s];exact((((((aa.set dO _).set dO _).set dO _).set dO _).set dO _).set dO _)
 rw[s];have b0:=Da y (i:=0) (u:=.string t) rfl;have b1:=Da y (i:=1) (u:=X z R L) rfl;have b2:=Da y (i:=2) (u:=O Y d) rfl;have b3:=Da y (i:=3) (u:=O Y l) rfl;have b4:=Da y (i:=4) (u:=O Y m) rfl;have b5:=Da y (i:=5) (u:=O Y o) rfl;exact bR (v:=G #[.string t,X z R L,O Y d,O Y l,O Y m,O Y o]) (by simp[results,Tryz.results79,go_sem,b0,b1,b2,b3,b4,b5]) rfl ⟨_,rfl,ad.E hk,ab,fun j hj=>by have:=(f.lt j hj).1;simp only[wZ,Yb]at this;omega⟩
end
section
open Go.RowKit Go.Shelf Go.Sort
attribute [local go_sem] Oper.semAt_some
def CU(_:V)(c:List F)(j:Jt):Prop:=c=Sg j
abbrev Re(w:V)(v:F)(l:List Jt):Prop:=Sl 82 6 CU w v l
def Re.f{w w':V}{v:F}{l:List Jt}(h:Re w v l)(k:Ba w w'):Re w' v l:=Sl.ext h (fun _ _ h=>h) k
def Re.at'{w:V}{a:Option Addr}{n c:Nat}{l:List Jt}(h:Re w (X a n c) l){i:Nat}{j:Jt}(g:l[i]?=I j):∃b o,a=I ⟨b,o,Z⟩/\b<w.heap.size/\∀(m:Nat) u,(ij j)[m]?=I u->w.cell? ⟨b,o+i*6+m,Z⟩=I u:=by obtain⟨b,o,d,rfl,e,p,rfl,f⟩:=Sl.at h g;exact⟨b,o,rfl,e,fun m u k=>f m u (by unfold Sg;rw[Array.getElem?_toList];exact k)⟩
def Fa.jts{w:V}{base:Nat}{v:F}{l:List Jt}(h:Fa 82 6 w base v (l.map Sg)):Re w v l:=
 Fa.sl h sM (fun i c x a b=>by
  rw[lP,b]at a;cases a;rfl)
def Mh(w:V)(a:Nat)(W W':V):Prop:=Below w.heap.size W W'/\W'.heap[a]?=W.heap[a]?/\W'.heap[a+1]?=W.heap[a+1]?
def Mh.refl(w:V)(a:Nat)(W:V):Mh w a W W:=⟨Below.refl _ _,rfl,rfl⟩
def Mh.trans{w:V}{a:Nat}{A B C:V}(h:Mh w a A B)(k:Mh w a B C):Mh w a A C:=⟨h.1.trans k.1,k.2.1.trans h.2.1,k.2.2.trans h.2.2⟩
def Mh.put{w:V}{a:Nat}{w0:V}(f:w.heap.size<=w0.heap.size)(g:a+1<w0.heap.size)(W:V)(l:Nat)(o b:Obj)(e:w0.heap.size<=l)(h:W.heap[l]?=I o)(c:o.isCells=false)(d:o.isWalk=false):Mh w a W (W.putObj l b):=
 ⟨(ze.put f (show a<w0.heap.size by omega) W l o b e h c d).1,(ze.put f (show a<w0.heap.size by omega) W l o b e h c d).2,(ze.put f g W l o b e h c d).2⟩
def Mh.set{w:V}{a:Nat}{A B:V}(h:Mh w a A B){p:Addr}(c:w.heap.size<=p.block)(d:p.block≠a)(b:p.block≠a+1)(u:F):Mh w a A (B.setCell p u):=
 ⟨(ze.set ⟨h.1,h.2.1⟩ c d u).1,(ze.set ⟨h.1,h.2.1⟩ c d u).2,(ze.set ⟨h.1,h.2.2⟩ c b u).2⟩
def Mh.ext{w:V}{a:Nat}{A B C:V}(h:Mh w a A B)(k:Ba B C)(c:w.heap.size<=B.heap.size)(b:a+1<B.heap.size):Mh w a A C:=
 ⟨h.1.trans (Below.mono k c),(k.block (show a<B.heap.size by omega)).trans h.2.1,(k.block b).trans h.2.2⟩
def Mh.blk{w:V}{a:Nat}{A B:V}(h:Mh w a A B){o:Obj}(k:A.heap[a]?=I o):B.heap[a]?=I o:=h.2.1.trans k
def Mh.blk1{w:V}{a:Nat}{A B:V}(h:Mh w a A B){o:Obj}(k:A.heap[a+1]?=I o):B.heap[a+1]?=I o:=h.2.2.trans k
def Uh(r:Ru)(L:List Jt)(k i:Nat):Bool:=match L[i]?,L[k]? with|some a,I b=>Hh r a b|_,_=>false
def ik(r:Ru)(L:List Jt)(k:Nat):List Nat:=(List.range k).filter (Uh r L k)
def VR(w:V)(b k:Nat):Calls Tryz.prog 47 #[N (I ⟨b,0,Z⟩),O Y k] w fun e d=>e=.returned (.func (.func 81) #[] #[N (I ⟨w.heap.size+1,0,Z⟩),N (I ⟨w.heap.size,0,Z⟩)])/\(w.alloc (M #[N (I ⟨b,0,Z⟩)] 84)).alloc (M #[O Y k] 3)=d:=by have c:∀(a:Fn)(first cap:Array F)(w:V),(Instr.makeFunc a first cap).run Tryz.prog w = .ok (.func a first cap) w:=fun _ _ _ _=>rfl;go_in;go_wp2;go_ret;exact⟨rfl,rfl⟩
def QQ{r:Ru}{L:List Jt}{k j:Nat}(h:Uh r L k j=true):(List.range (j+1)).filter (Uh r L k)=(List.range j).filter (Uh r L k)++[j]:=by rw[List.range_succ,List.filter_append];simp[h]
def RQ{r:Ru}{L:List Jt}{k j:Nat}(h:Uh r L k j=false):(List.range (j+1)).filter (Uh r L k)=(List.range j).filter (Uh r L k):=by rw[List.range_succ,List.filter_append];simp[h]
def XN{r:Ru}{L:List Jt}{k j:Nat}(h:j<=k):(List.range j).filter (Uh r L k) <+: ik r L k:=by
 unfold ik;refine List.IsPrefix.filter _ ?_;have:(List.range k).take j=List.range j:=by rw[List.take_range,Nat.min_eq_left h]
 rw[<-this];exact List.take_prefix _ _
def iL{r:Ru}{L:List Jt}{k j:Nat}(h:j<k):((List.range j).filter (Uh r L k)).length<k:=by have:=List.length_filter_le (Uh r L k) (List.range j);rw[List.length_range]at this;omega
def jL(n:Nat)(hn:1<=n)(l bx:Nat)(w w0:V)(sb:Nat)(r:Ru)(vg vp vs vj vr:F)(L:List Jt)(k:Nat)(hk:k<L.length)(an:∀j∈L,Ri j)(J Jx:List Nat->V->Prop)(hY:∀pre x W,J pre W->pre.length<k->x<k->YieldAt Fence.wide (n-1) Tryz.prog l #[O Y (x:Nat)] W fun e W' =>
   (e=.returned (.bool true)/\J (pre++[x]) W'/\Mh w bx W W')\/(e=.returned (.bool false)/\Jx (pre++[x]) W'))
  (al:∀pre W W',J pre W->Ba W W'->J pre W')(aq:w.heap[sb]?=I (M (pj r vg vp vs vj vr) 89 (0,0)))(t:Re w vj L)
  (aA:w0.heap[bx]?=I (M #[N (I ⟨sb,0,Z⟩)] 84 (0,0)))(ad:w0.heap[bx+1]?=I (M #[O Y k] 3 (0,0)))(hw:Ba w w0)(W:V)(hW:Mh w bx w0 W)(h0:J [] W) :
  CallsIn Fence.wide n Tryz.prog 81 #[.func (.yield l) #[] #[],N (I ⟨bx+1,0,Z⟩),N (I ⟨bx,0,Z⟩)] W fun e W'=>(∃v,e=.returned v)/\
   ((∃ys,ys=ik r L k/\J ys W')\/(∃pre,pre <+: ik r L k/\Jx pre W')):=by
 obtain⟨a,m,c,rfl⟩:=Ma t;have hm:=t.len;have ap:=t.le;unfold maxLen at ap;obtain⟨kj,ae⟩:∃q,L[k]?=I q:=⟨L[k]'hk,by simp⟩;rw[<-hm]at hk;have aG:m<=9223372036854775807:=oM;have aF:k<=9223372036854775807:=oM;have Hk:=Aa hk;have Hm:=Aa hm;have aj:=Aa an;have aE:=Ya ad;obtain⟨sk,z,g,y,step,R,d⟩:=r;have c1:=Da (hW.blk1 ad) (i:=0) (u:=O Y k) rfl;clear an ap hk hm;refine callsIn_of_wp Tryz.func81 rfl trivial ?_ rfl;simp only[Tryz.ntmps81,List.size_toArray,List.length_cons,List.length_nil,Nat.reduceAdd,Nat.reduceSub,Array.replicate_succ,Array.replicate_zero,List.push_toArray,List.append_toArray,List.nil_append,List.cons_append]
 gi_wp2
 gi_loopw [6] (fun t6 wr=>∃j:Nat,j<=k/\t6=O Y (j:Nat)/\J ((List.range j).filter (Uh ⟨sk,z,g,y,step,R,d⟩ L k)) wr/\Mh w bx w0 wr)
  (fun t6 _=>(k-intOf t6).toNat)
 case atStart=>exact⟨0,by omega,rfl,by simpa using h0,hW⟩
 case round =>
  obtain⟨j,hj,rfl,hJ,hx⟩:=hrel;have af:Ba w wr:=hw.D hx.1 (nE _);by_cases aC:j<k
  ·obtain⟨⟨ja,jb,jl,jr,jf,jt⟩,hq⟩:∃q,L[j]?=I q:=⟨L[j]'(by have:=Hk.o;have:=Hm.o;omega),by simp⟩;obtain⟨ka,kb,kl,kr,kf,kt⟩:=kj;obtain⟨b,o,rfl,hb,p⟩:=(t.f af).at' hq;obtain⟨b',o',e',_,s⟩:=(t.f af).at' ae;cases e';have HF:=Aa (fun W=>kT W sk z g y step R d ja jb jl jr jf jt ka kb kl kr kf kt (aj.o _ (lM hq)) (aj.o _ (lM ae)));obtain⟨fb,ah⟩:=gX (Hh ⟨sk,z,g,y,step,R,d⟩ ⟨ja,jb,jl,jr,jf,jt⟩ ⟨ka,kb,kl,kr,kf,kt⟩);rw[ah]at HF;have ao:Uh ⟨sk,z,g,y,step,R,d⟩ L k j=fb:=by unfold Uh;rw[hq,ae];exact ah
   have hs:=af.e aq;unfold pj at hs;dsimp only at hs;have s0:=Da hs (i:=0) (u:=O .u8 sk) rfl;have s1:=Da hs (i:=1) (u:=O Y z) rfl;have s2:=Da hs (i:=2) (u:=O Y g) rfl;have s3:=Da hs (i:=3) (u:=O Y y) rfl;have s4:=Da hs (i:=4) (u:=O Y step) rfl;have s5:=Da hs (i:=5) (u:=O Y R) rfl;have s6:=Da hs (i:=6) (u:=O Y d) rfl;have aD:=Da hs (i:=10) (u:=X (I ⟨b,o,Z⟩) m c) rfl;have aw:=Da (hx.blk aA) (i:=0) (u:=N (I ⟨sb,0,Z⟩)) rfl;have ax:=Da (hx.blk1 ad) (i:=0) (u:=O Y k) rfl;unfold ij at p s;dsimp only at p s;have a0:=p 0 (O Y ja) rfl;have a1:=p 1 (O Y jb) rfl;have a2:=p 2 (O Y jl) rfl;have a3:=p 3 (O Y jr) rfl;have a4:=p 4 (O Y jf) rfl;have a5:=p 5 (O Y jt) rfl;have k0:=s 0 (O Y ka) rfl;have k1:=s 1 (O Y kb) rfl;have k2:=s 2 (O Y kl) rfl;have k3:=s 3 (O Y kr) rfl;have k4:=s 4 (O Y kf) rfl;have k5:=s 5 (O Y kt) rfl;simp only[Nat.add_zero]at a0 k0;have p1:(0:Int)<=(j:Int):=oM;have p2:(j:Int)<(m:Int):=by have:=Hk.o;omega
   have p3:(0:Int)<=(k:Int):=oM;have p4:(k:Int)<(m:Int):=by have:=Hk.o;omega
   have p5:(j:Int)<(k:Int):=oM;have p6:j<m:=by have:=Hk.o;omega
   have p7:k<m:=Hk.o;have HJ:=Aa hJ;have HX:=Aa hx;have ak:=Aa ao;have aa:=Aa aC;have HY:=Aa hY;have av:=Aa al;clear p s hq ae ah hs ao hJ hx aq hY al t
   gi_wp2
   refine CG (fun i=>decide (21<i)) (Ea [(⟨bx,0,Z⟩,N (I ⟨sb,0,Z⟩)),(⟨bx+1,0,Z⟩,O Y k),(⟨sb,0,Z⟩,O .u8 sk),(⟨sb,1,Z⟩,O Y z),(⟨sb,2,Z⟩,O Y g),(⟨sb,3,Z⟩,O Y y),(⟨sb,4,Z⟩,O Y step),(⟨sb,5,Z⟩,O Y R),(⟨sb,6,Z⟩,O Y d),(⟨sb,10,Z⟩,X (I ⟨b,o,Z⟩) m c),
    (⟨b,o+j*6,Z⟩,O Y ja),(⟨b,o+j*6+1,Z⟩,O Y jb),(⟨b,o+j*6+2,Z⟩,O Y jl),(⟨b,o+j*6+3,Z⟩,O Y jr),(⟨b,o+j*6+4,Z⟩,O Y jf),(⟨b,o+j*6+5,Z⟩,O Y jt),
    (⟨b,o+k*6,Z⟩,O Y ka),(⟨b,o+k*6+1,Z⟩,O Y kb),(⟨b,o+k*6+2,Z⟩,O Y kl),(⟨b,o+k*6+3,Z⟩,O Y kr),(⟨b,o+k*6+4,Z⟩,O Y kf),(⟨b,o+k*6+5,Z⟩,O Y kt)]) kM ?_ (fun ab=>?_)
   ·exact cA
   clear s0 s1 s2 s3 s4 s5 s6 aD aw ax a0 a1 a2 a3 a4 a5 k0 k1 k2 k3 k4 k5;refine sN 0 ?_
   iterate 18 refine Nm ?_
   refine oN ?_;refine mj (i:=18) fun K f=>?_;go_simp;refine⟨trivial,(callsIn_wide.2 (HF.o _)).mono ?_⟩;rintro e w4 ⟨rfl,ar⟩;dsimp only;refine kO f (fun _=>cE ab ar) (fun ab=>?_);clear f K;have ab:=ab rfl;have X4:Ba wr w4:=((eR wr).drew).trans ar;have ac:=av.o _ _ _ HJ.o X4;have ag:=HX.o.ext X4 (nT hw.size HX.o.1.size) (Ya (HX.o.blk1 ad));have au:=Aa ac;have ai:=Aa ag;cases fb with
   |false=>
    clear ac ag;refine sN 19 ?_;refine Nm ?_
    (iterate 2 refine Jz ?_);refine oN ?_;refine mj (i:=22) fun K f=>?_;go_simp;refine kO f (fun h=>nomatch h) (fun _=>?_);clear f K;refine mj (i:=23) fun K f=>?_;go_simp;refine kO f (fun h=>nomatch h) (fun _=>?_);clear f K;refine mj (i:=24) fun K f=>?_;go_simp;refine kO f (fun h=>nomatch h) (fun _=>?_);clear f K;refine rh kM ?_ _
    gi_wp2
    go_roundw
    case rel=>exact⟨j+1,by have:=aa.o;omega,by go_num,by rw[RQ ak.o];exact au.o,ai.o⟩
    case measure=>simp[intOf];omega
   |true=>
    obtain⟨fn,tmps,assign,body,hy,hR⟩:=HY.o _ j w4 ac (iL aa.o) aa.o;rw[<-QQ ak.o]at hR;have am:=TB hR;have HR:=Aa am;clear ac ag hR am;refine sN 19 ?_
    (iterate 3 refine Nm ?_);refine oN ?_;refine mj (i:=22) fun K f=>?_;go_simp;refine RoundIn.mono HR.o ?_;rintro e W3 ⟨bb,rfl,hA,hB⟩;dsimp only;refine kO f (fun h=>nomatch h) (fun _=>?_);clear f K;cases bb
    ·have az:=hB rfl;clear hA hB;refine mj (i:=23) fun K f=>?_;go_simp;refine kO f (fun h=>nomatch h) (fun _=>?_);clear f K;refine mj (i:=24) fun K f=>?_;go_simp;refine kO f (fun h=>nomatch h) (fun _=>?_);clear f K;refine rh kM ?_ _
     gi_wp2
     refine bR (results_none rfl _ _ _) rfl ?_;exact⟨⟨_,rfl⟩,.inr ⟨_,XN (by have:=aa.o;omega),az⟩⟩
    ·obtain⟨ay,aB⟩:=hA rfl;clear hA hB;refine mj (i:=23) fun K f=>?_;go_simp;refine kO f (fun h=>nomatch h) (fun _=>?_);clear f K;refine mj (i:=24) fun K f=>?_;go_simp;refine kO f (fun h=>nomatch h) (fun _=>?_);clear f K;refine rh kM ?_ _
     gi_wp2
     go_roundw
     case rel=>exact⟨j+1,by have:=aa.o;omega,by go_num,ay,ai.o.trans aB⟩
     case measure=>simp[intOf];omega
  ·obtain rfl:j=k:=oM
   gi_wp2
   go_end0
   exact⟨⟨_,rfl⟩,.inl ⟨_,rfl,hJ⟩⟩
def PQ(n:Nat)(hn:1<=n)(b:Nat)(w w0:V)(u:Nat)(r:Ru)(K R vs v vr:F)(L:List Jt)(k:Nat)(hk:k<L.length)(o:∀j∈L,Ri j)(t:w.heap[u]?=I (M (pj r K R vs v vr) 89 (0,0)))(s:Re w v L)(q:w0.heap[b]?=I (M #[N (I ⟨u,0,Z⟩)] 84 (0,0)))(g:w0.heap[b+1]?=I (M #[O Y k] 3 (0,0)))(z:Ba w w0):SeqStopsK Fence.wide n Tryz.prog 81 #[N (I ⟨b+1,0,Z⟩),N (I ⟨b,0,Z⟩)] (fun x:{x:Nat // x<k}=>#[O Y (x.1:Nat)]) (Mh w b) (fun ys=>ys.map (·.1)=ik r L k) (fun pre=>pre.map (·.1) <+: ik r L k) k w0:=
 fun l J Jx W hW hJ _ hY h0=>by
  have h:=jL n hn l b w w0 u r K R vs v vr L k hk o (fun pre W=>∃p:List {x:Nat // x<k},p.map (·.1)=pre/\J p W) (fun pre W=>∃p:List {x:Nat // x<k},p.map (·.1)=pre/\Jx p W)
   (fun pre x W ⟨p,m,hj⟩ y hx=>(hY p ⟨x,hx⟩ W hj (by rw[<-m,lL]at y;exact y)).mono (fun e W' h=>by
    rcases h with ⟨a,c,d⟩|⟨a,c⟩
    ·exact .inl ⟨a,⟨_,by rw[List.map_append,m];rfl,c⟩,d⟩
    ·exact .inr ⟨a,⟨_,by rw[List.map_append,m];rfl,c⟩⟩))
   (fun pre A A' ⟨p,m,h⟩ f=>⟨p,m,hJ _ _ _ Z h ⟨f.os,f.tape,f.output,f.size,fun i hi _=>f.block hi⟩ (fun r e=>by cases e)⟩) t s q g z W ((Mh.refl w b w0).ext hW z.size (Ya g)) ⟨[],rfl,h0⟩
  refine h.mono ?_;rintro e W' ⟨hv,h⟩;refine⟨hv,?_⟩;rcases h with ⟨ys,a,p,c,d⟩|⟨pre,a,p,c,d⟩
  ·exact .inl ⟨p,c.trans a,d⟩
  ·exact .inr ⟨p,by rw[<-c]at a;exact a,d⟩
end
section
open Go.RowKit Go.Shelf Go.Sort Go.Lib
def OC{f:Int×Int->Int}{l:LP}{i:Nat}{q:Int×Int}(h:l[i]?=I q)(a:0<i):pd f (l.take (i+1))=(if f q<(pd f (l.take i)).1 then f q else (pd f (l.take i)).1,if (pd f (l.take i)).2<f q then f q else (pd f (l.take i)).2):=by
 have b:=(lS.1 h).1;rw[Ce l i q h,Qx (fun e=>by have:=congrArg List.length e;rw[List.length_take,List.length_nil]at this;omega)]
 ext
 ·dsimp only;split<;>omega
 ·dsimp only;split<;>omega
def Nu{f:Int×Int->Int}{l:LP}{q:Int×Int}(h:l[0]?=I q):pd f (l.take 1)=(f q,f q):=by
 rw[Ce l 0 q h];simp[pd]
