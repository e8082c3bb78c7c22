import Derived.Test.YtgimcmpeceifnaaGreatDoorComA11
import Derived.Test.YtgimcmpeceifnaaGreatDoorRows
import Derived.Test.YtgimcmpeceifnaaGreatDoorCards
import Derived.Test.YtgimcmpeceifnaaGreatDoorTie
import Derived.LaidMore
import Derived.Stop.Joined
import Derived.OpenShut
import Derived.SevenTiedAt
set_option maxRecDepth 1000000
set_option maxHeartbeats 16000000
set_option linter.all false
open Go.Value renaming int->O,slice->Z,pointer->F,agg->G
open Go.IntKind renaming i64->Y,u8->S
open Option renaming none->X,some->V
open Go renaming World->I,Value->M,Addr->U
open Go.Obj renaming cells->N
namespace Go.Proofs.YtgimcmpeceifnaaGreatDoor.Cop
section
open Go.RowKit Go.Shelf Go.Sort
def Zj:Ru:=⟨1,0,20,50,10,100,5⟩
def Oz w:Calls Tryz.prog 35 #[] w fun e a=>e=.returned (G (Uf Zj))/\Ba w a:=by go_in;go_wp2;refine bR (v:=G (Uf Zj)) (by simp[results,Tryz.results35,go_sem,Uf,Zj]) rfl ⟨rfl,eA⟩
def nt w f x z:Calls Tryz.prog 73 #[.string f,O Y x,O Y z] w fun e g=>∃v,e=.returned (G (Dd (Ka f x z) v))/\Ia g v Mj/\Ba w g:=by go_in;go_wp2_with(go_at_call 106;(with_reducible refine(iS _).mono ?_);rintro e i ⟨p,rfl,a,b⟩;obtain⟨j,l,k,rfl⟩:=Ma a;obtain⟨c,d⟩:=b.cells;(have o:=b.size);(simp only[wZ]at o);(have m:w.heap.size<i.heap.size:=oM);(have n:¬w.heap.size=i.heap.size:=oM));refine bR (v:=G (Dd (Ka f x z) (Z j l k))) (by simp[results,Tryz.results73,go_sem,Dd,Ka,c,d,m,n]) rfl ⟨_,rfl,?_,eA⟩;exact a.E kA
end
section
open Go Go.ChangeShapes Go.WideShapes Go.ChangeAt Go.RowKit
def IN:ownKnob Tryz.prog.godebug=none:=kM
def Bq:Tryz.prog.globalNamed "copestone/stone.ways" = some 0:=kM
def uq:(Tryz.prog.globals[0]?).map (·.type)=some 283:=kM
def OL:Tryz.prog.underlying 283=some (.array 4 282):=kM
def Bv:Tryz.prog.underlying 282=some (.func #[91] #[91] false):=kM
def iy:laidOutB Tryz.prog=true:=kM
def ZQ{W}(h:laidMetH Tryz.prog [("copestone/stone.ways",Rows.laid_copestone_stone_ways)] W):Gw W:=by
 obtain⟨g,t,a,fuel,p,c,q,hv,o⟩:=h.funcs (List.mem_singleton.2 rfl);obtain rfl:=Option.some.inj (Bq.symm.trans c);obtain rfl:=Option.some.inj (uq.symm.trans q);have d:DataW.trod (funcToken Tryz.prog) Tryz.prog W 0 (fun _=>true) true fuel 283 a.toList=some (.agg [.held [99,111,112,101,115,116,111,110,101,47,115,116,111,110,101,46,119,97,121,115,36,49],.held [99,111,112,101,115,116,111,110,101,47,115,116,111,110,101,46,119,97,121,115,36,50],.held [99,111,112,101,115,116,111,110,101,47,115,116,111,110,101,46,119,97,121,115,36,51],.held [99,111,112,101,115,116,111,110,101,47,115,116,111,110,101,46,119,97,121,115,36,52]],p):=o;obtain⟨L,m,_,k,j,f,b⟩:=DataW.trod_array OL d;have l:Tryz.prog.cellsOf 282=1:=kM;have n:Tryz.prog.cellsOf 283=4:=kM;rw[n]at j;rw[l]at b;obtain⟨a⟩:=a;have e:a.length=4:=j
 match a,e,L,f with
 | [v0,v1,v2,v3],_,[⟨y0,R⟩,⟨y1,q1⟩,⟨y2,q2⟩,⟨y3,q3⟩],_ =>
  simp only[Prod.mk.injEq,List.map_cons,List.map_nil,DataW.agg.injEq,List.cons.injEq,and_true]at k;obtain⟨⟨rfl,rfl,rfl,rfl⟩,_⟩:=k;have x:=b 0 oM;have y:=b 1 oM;have z:=b 2 oM;have K:=b 3 oM;have r:=World.var?_cell c hv 0;have s:=World.var?_cell c hv 1;have u:=World.var?_cell c hv 2;have v:=World.var?_cell c hv 3;obtain rfl:=func_of_trod (f0:=344) Bv kM x;obtain rfl:=func_of_trod (f0:=345) Bv kM y;obtain rfl:=func_of_trod (f0:=346) Bv kM z;obtain rfl:=func_of_trod (f0:=347) Bv kM K;have i:W.cell? ⟨0,0,none⟩=some (.func (.func 344) #[] #[]):=by simpa using r
  exact⟨World.block_lt_of_cell? W _ (by rw[i]),i,by simpa using s,by simpa using u,by simpa using v⟩
def MM os args:laidMetH Tryz.prog [("copestone/stone.ways",Rows.laid_copestone_stone_ways)] ((World.doorLaid Tryz.prog 14 os).forCall (fun _ _=>0) ⟨#[],args,[]⟩).memory:=
 laidMetH_of_parts3 (fuel:=8) (laidMet_of_run' 8 kM kM) kM kM
end
section
open Go.ChangeShapes Go.WideShapes Go.Deep
section
variable {H:Type} {enc:TypeId×Value->H} {w:World} {spare:Nat->Bool} {held:Bool}
def VB:Tryz.prog.underlying 27=some (.struct (Um Tryz.prog 27)):=kM
def AT{r b0 v d p}(hv:Value.okWide Tryz.prog w r b0 27 v)(h:DataW.Trod enc Tryz.prog w 0 spare held 27 v d p):∃ru,v = .agg (Uf ru):=by
 obtain⟨n,rfl,l⟩:=okWide_struct VB hv;have hc:Tryz.prog.cellsOf 27=7:=kM;rw[hc]at l;obtain⟨c0,c1,c2,c3,c4,c5,c6,rfl⟩:∃a b c d e f g,n=#[a,b,c,d,e,f,g]:=by
  match n,l with
  | ⟨[a,b,c,d,e,f,g]⟩,_=>exact⟨a,b,c,d,e,f,g,rfl⟩
 obtain⟨fuel,hf⟩:=h;obtain⟨xs,m,_,_,hl,k,j⟩:=DataW.trod_struct VB hf;obtain⟨y0,h0⟩:=tj k j (i:=0) (ti:=5) (oi:=0) (ki:=1) kM;obtain⟨y1,h1⟩:=tj k j (i:=1) (ti:=3) (oi:=1) (ki:=1) kM;obtain⟨y2,h2⟩:=tj k j (i:=2) (ti:=3) (oi:=2) (ki:=1) kM;obtain⟨y3,h3⟩:=tj k j (i:=3) (ti:=3) (oi:=3) (ki:=1) kM;obtain⟨y4,h4⟩:=tj k j (i:=4) (ti:=3) (oi:=4) (ki:=1) kM;obtain⟨y5,h5⟩:=tj k j (i:=5) (ti:=3) (oi:=5) (ki:=1) kM;obtain⟨y6,h6⟩:=tj k j (i:=6) (ti:=3) (oi:=6) (ki:=1) kM;obtain⟨z,e0,_⟩:=DataW.trod_int UB h0;obtain⟨K,e1,_⟩:=DataW.trod_int Dm h1;obtain⟨L,e2,_⟩:=DataW.trod_int Dm h2;obtain⟨R,e3,_⟩:=DataW.trod_int Dm h3;obtain⟨W,e4,_⟩:=DataW.trod_int Dm h4;obtain⟨z5,e5,_⟩:=DataW.trod_int Dm h5;obtain⟨z6,e6,_⟩:=DataW.trod_int Dm h6;have o:[c0]=[.int .u8 z]:=e0;have q:[c1]=[.int .i64 K]:=e1;have s:[c2]=[.int .i64 L]:=e2;have t:[c3]=[.int .i64 R]:=e3;have u:[c4]=[.int .i64 W]:=e4;have x:[c5]=[.int .i64 z5]:=e5;have y:[c6]=[.int .i64 z6]:=e6;simp only[List.cons.injEq,and_true]at o q s t u x y;exact⟨⟨z,K,L,R,W,z5,z6⟩,by unfold Uf;rw[o,q,s,t,u,x,y]⟩
end
end
section
open Go.RowKit Go.Shelf Go.Sort
def Bc:List Pl:=[Ka ⟨#[97]⟩ 0 0,Ka ⟨#[98]⟩ 200 0,Ka ⟨#[99]⟩ 0 80,Ka ⟨#[100]⟩ 200 80,Ka ⟨#[101]⟩ 100 160]
def HM w:Calls Tryz.prog 34 #[] w fun e z=>∃vg vp,e=.returned (G #[vg,vp])/\Ia z vg Fc/\uj z w.heap.size vp Bc/\Ba w z:=by
 go_in;go_wp2_with(go_at_call 73;(with_reducible refine(nt _ ⟨#[97]⟩ 0 0).mono ?_);rintro e w1 ⟨v1,rfl,n,j⟩;obtain⟨W,n1,c1,rfl⟩:=Ma n;(unfold Dd Ka);dsimp only);go_wp2_with(go_at_call 73;(with_reducible refine(nt _ ⟨#[98]⟩ 200 0).mono ?_);rintro e w2 ⟨v2,rfl,o,g⟩;obtain⟨a2,n2,c2,rfl⟩:=Ma o;(unfold Dd Ka);dsimp only);go_wp2_with(go_at_call 73;(with_reducible refine(nt _ ⟨#[99]⟩ 0 80).mono ?_);rintro e w3 ⟨v3,rfl,r,d⟩;obtain⟨a3,n3,c3,rfl⟩:=Ma r;(unfold Dd Ka);dsimp only);go_wp2_with(go_at_call 73;(with_reducible refine(nt _ ⟨#[100]⟩ 200 80).mono ?_);rintro e w4 ⟨v4,rfl,s,c⟩;obtain⟨a4,n4,c4,rfl⟩:=Ma s;(unfold Dd Ka);dsimp only);have K:Ia w1 (Z (V ⟨w.heap.size+1,0,X⟩) 2 2) Fc:=(JC (w.alloc (N #[Z X 0 0,Z X 0 0] 39)) sM Fc dM).f j;have L:=j.e (VD w (N #[Z X 0 0,Z X 0 0] 39) (N #[O Y (-1000),O Y 0,O Y 1000,O Y 0] 91));have R:=c.e (d.e (g.e L));have x:=za K;clear L K;go_wp2_with(go_at_call 73;(with_reducible refine(nt _ ⟨#[101]⟩ 100 160).mono ?_);rintro e f ⟨v5,rfl,t,a⟩;obtain⟨a5,n5,c5,rfl⟩:=Ma t;(unfold Dd Ka);dsimp only;(have i:=a.e R);(have k0:=Aa i 0 (Z X 0 0));(have k1:=Aa i 1 (Z X 0 0));(have kf:=Za i);(have kz:=Ya i);(have kn:¬w.heap.size=f.heap.size:=oM));obtain⟨m,b⟩:=gX ((f.setCell ⟨w.heap.size,0,X⟩ (Z (V ⟨w.heap.size+1,0,X⟩) 2 2)).setCell ⟨w.heap.size,1,X⟩ (Z (V ⟨f.heap.size,0,X⟩) 5 5));have l:Ja 91 f m:=by
  rw[<-b];have h1:=(Ja.refl 91 f).set (p:=⟨w.heap.size,0,X⟩) i dM (Z (V ⟨w.heap.size+1,0,X⟩) 2 2);exact h1.set (p:=⟨w.heap.size,1,X⟩) (Qh i 0 _) dM _
 have hz:m.heap.size=f.heap.size:=by rw[<-b];simp only[fg]
 have y:m.heap[w.heap.size]?=V (N #[Z (V ⟨w.heap.size+1,0,X⟩) 2 2,Z (V ⟨f.heap.size,0,X⟩) 5 5] 39 (0,0)):=by
  rw[<-b];exact Qh (Qh i 0 _) 1 _
 have hX:Ba w m:=by
  rw[<-b];exact(Ba.set (Ba.set (((((((eR w).alloc _).alloc _).trans j).trans g).trans d).trans c |>.trans a) (nE _) _) (nE _) _)
 rw[b];clear b;have b0:=Aa y 0 (Z (V ⟨w.heap.size+1,0,X⟩) 2 2);have b1:=Aa y 1 (Z (V ⟨f.heap.size,0,X⟩) 5 5);have bz:=Ya y;have u:=vP m (k:=f.heap.size) (base:=w.heap.size) hz.symm oM [(Ka ⟨#[97]⟩ 0 0,Z W n1 c1),(Ka ⟨#[98]⟩ 200 0,Z a2 n2 c2),(Ka ⟨#[99]⟩ 0 80,Z a3 n3 c3),(Ka ⟨#[100]⟩ 200 80,Z a4 n4 c4),(Ka ⟨#[101]⟩ 100 160,Z a5 n5 c5)] (by
  intro q u;simp only[List.mem_cons,List.not_mem_nil,or_false]at u;rcases u with rfl|rfl|rfl|rfl|rfl
  ·exact⟨(((((n.f g).f d).f c).f a)).E l,by unfold Ka;dsimp only;omega⟩
  ·exact⟨((((o.f d).f c).f a)).E l,by unfold Ka;dsimp only;omega⟩
  ·exact⟨(((r.f c).f a)).E l,by unfold Ka;dsimp only;omega⟩
  ·exact⟨((s.f a)).E l,by unfold Ka;dsimp only;omega⟩
  ·exact⟨t.E l,by unfold Ka;dsimp only;omega⟩) sM
 refine bR (v:=G #[Z (V ⟨w.heap.size+1,0,X⟩) 2 2,Z (V ⟨f.heap.size,0,X⟩) 5 5]) (by simp[results,Tryz.results34,go_sem,b0,b1,bz]) rfl ⟨_,_,rfl,?_,?_,hX.alloc _⟩
 ·exact((((((x.o.f g).f d).f c).f a)).E l).f ((eR _).alloc _)
 ·exact u
def vy w:Calls Tryz.prog 34 #[] w fun e a=>∃vg vp,e=.returned (G #[vg,vp])/\Ia a vg Fc/\ld a vp Bc/\Ba w a:=
 (HM w).mono fun _ _ ⟨vg,vp,d,b,c,f⟩=>⟨vg,vp,d,b,c.pls,f⟩
def RU(w:I)(xs:List Int)(g:Nat)(a:M)(W:I):Prop:=
 ∃i:Nat,i<=xs.length/\a=O Y i/\g=xs.length-i/\W=w/\∀j y,j<i->xs[j]?=V y->y=0
def DL w v xs(h:Mc 3 w v xs):Calls Tryz.prog 109 #[v] w fun e w'=>e=.returned (O Y (Lh xs))/\w'=w:=by
 obtain⟨a,c,rfl⟩:=h.form;obtain⟨n,r⟩:=gX xs.length;rw[r]at h ⊢;have m:=h.le;unfold maxLen at m;have aa:n<=9223372036854775807:=oM;have f:=za r;clear r m;go_in;go_wp2;go_loopg [8] n (RU w xs)
 case atStart=>exact⟨0,by omega,rfl,by rw[f.o];rfl,rfl,fun j y W=>by omega⟩
 case round =>
  obtain⟨i,R,rfl,rfl,rfl,g⟩:=hrel;rw[f.o]at R;have d:=za g;clear g;by_cases q:i<n
  ·obtain⟨x,s⟩:∃x,xs[i]?=V x:=⟨xs[i]'(by rw[f.o];omega),by simp[f.o,q]⟩;obtain⟨b,o,rfl,hb,u⟩:=h.open (by rw[f.o];omega);have L:=u i x s;have t:=za s;clear s u;by_cases l:x=0
   ·subst l;go_wp2;go_roundg (n-(i+1))
    case measure=>have:=f.o;omega
    case rel =>
     refine⟨i+1,by have:=f.o;omega,by go_num,by rw[f.o],rfl,fun j y W k=>?_⟩;by_cases p:j=i
     ·subst p;rw[t.o]at k;cases k;rfl
     ·exact d.o j y oM k
   ·have e:Lh xs=x:=Rw t.o l d.o;have E:=za e;(have z:(x != 0)=true:=by simpa using l);(have K:(x==0)=false:=by simpa using l);clear e l;go_wp2;go_ret;exact⟨by rw[E.o];rfl,rfl⟩
  ·obtain rfl:i=n:=oM;have e:Lh xs=0:=gy (fun j y k=>d.o j y (by have:=(lS.1 k).1;rw[f.o]at this;exact this) k);have E:=za e;clear e;go_wp2;go_ret;exact⟨by rw[E.o];rfl,rfl⟩
def RQ w v xs(h:Mc 3 w v xs):Calls Tryz.prog 78 #[v] w fun e g=>e=.returned (O Y (Lh xs))/\g=w:=by obtain⟨x,d⟩:=gX (Lh xs);have b:=DL w v xs h;rw[d]at *;have f:=za b;obtain⟨a,c,rfl⟩:=h.form;clear b d;go_in;go_wp2_with(((go_at_call 109;(with_reducible refine f.o.mono ?_);rintro e i ⟨rfl,rfl⟩)));go_ret;exact⟨rfl,rfl⟩
def Wt(W:I){k}(a:k=W.heap.size) x y z u:Mc 3 (W.alloc (N #[O Y x,O Y y,O Y z,O Y u] 3)) (Z (V ⟨k,0,X⟩) 4 4) [x,y,z,u]:=by
 subst a;refine⟨rfl,_,_,rfl,nE _,by unfold maxLen;omega,.inr ⟨W.heap.size,0,_,_,rfl,aN W _,?_⟩⟩;intro i v hv
 match i,hv with
 | 0,hv=>simpa[nc] using hv
 | 1,hv=>simpa[nc] using hv
 | 2,hv=>simpa[nc] using hv
 | 3,hv=>simpa[nc] using hv
 | i+4,hv=>simp[nc]at hv
def fh(p q:Jt):Int:=Lh [p.fr-q.fr,p.left-q.left,p.a-q.a,p.b-q.b]
instance:Inhabited {j // Fh j}:=⟨⟨⟨0,0,0,0,0,0⟩,by unfold Fh Bd;decide⟩⟩
def Fo p q:fh p q<0 ↔ (p.fr<q.fr\/(p.fr=q.fr/\(p.left<q.left\/(p.left=q.left/\(p.a<q.a\/(p.a=q.a/\p.b<q.b)))))):=by
 unfold fh Lh Lh Lh Lh Lh
 repeat' split
 all_goals omega
def Bw x y:ltOf (fun x y:{j // Fh j}=>fh x.1 y.1) x y=decide (fh x.1 y.1<0):=rfl
def Vz:SWO (ltOf fun x y:{j // Fh j}=>fh x.1 y.1) where
 irrefl x:=by rw[Bw,decide_eq_false_iff_not,Fo];omega
 trans x y z h1 h2:=by rw[Bw,decide_eq_true_eq,Fo]at *;omega
 ntrans x y z h1 h2:=by rw[Bw,decide_eq_false_iff_not,Fo]at *;omega
def SM(x y:{j // Fh j}) W:Calls Tryz.prog 77 #[G (yh x.1),G (yh y.1)] W fun e w'=>e=.returned (O Y (fh x.1 y.1))/\∃q os',w'=grow (W.drewN q) os':=by obtain⟨⟨a,b,l,r,f,t⟩,c,d,g,i,k,m⟩:=x;obtain⟨⟨z,K,R,r',L,t'⟩,n,o,p,s,u,v⟩:=y;unfold fh yh;dsimp only[Bd]at c d g i k m n o p s u v ⊢;have d1:-9223372036854775808<=f-L:=oM;have d2:f-L<=9223372036854775807:=oM;have d3:-9223372036854775808<=l-R:=oM;have d4:l-R<=9223372036854775807:=oM;have d5:-9223372036854775808<=a-z:=oM;have d6:a-z<=9223372036854775807:=oM;have d7:-9223372036854775808<=b-K:=oM;have d8:b-K<=9223372036854775807:=oM;clear c d g i k m n o p s u v;obtain⟨x,hx⟩:=gX (Lh [f-L,l-R,a-z,b-K]);rw[hx];have HX:=za hx;clear hx;go_in;go_wp2_with(go_at_call 78;(with_reducible refine(RQ _ (Z (V ⟨W.heap.size+1+1,0,X⟩) 4 4) [f-L,l-R,a-z,b-K] (Wt _ sM _ _ _ _)).mono ?_);rw[HX.o];rintro e w3 ⟨rfl,rfl⟩);go_ret;exact⟨rfl,0,_,by rw[alloc_eq_grow,alloc_eq_grow,grow_grow,alloc_eq_grow,grow_grow];rfl⟩
def Zm blk a size w:CmpLays Tryz.prog 77 #[] (fun x:{j // Fh j}=>Vg x.1) 6 (fun x y=>fh x.1 y.1) blk a size w:=
 fun _ _ _ _ x y=>SM x y _
def yu(w:I)(base:Nat)(v:M)(l:List Jt)(e:Ending)(w':I):Prop:=
 e=.returned (.tuple #[])/\∃l':List Jt,l'.Perm l/\l'.Pairwise (fun a b=>¬fh b a<0)/\Ea 82 6 w' base v (l'.map Vg)/\w.grownBy w' v.ownBlock
def UN w base v l(h:Ea 82 6 w base v (l.map Vg))(u:∀j∈l,Fh j)(aa:l.length<=1000000):Calls Tryz.prog 76 #[v,.func (.func 77) #[] #[]] w (yu w base v l):=by
 obtain⟨a,n,c,rfl⟩:=h.i;have k:=h.len;rw[lL]at k;by_cases s:l=[]
 ·subst s;simp at k;subst k;refine(PS w a c _).mono ?_;rintro e w' ⟨rfl,rfl⟩;exact⟨rfl,[],List.Perm.refl _,List.Pairwise.nil,h,⟨rfl,rfl,rfl,nE _,fun _ _ _=>rfl⟩⟩
 obtain⟨g,rfl,_⟩:=h.blk (by rw[lL];exact List.length_pos_iff.2 s);obtain⟨d,z⟩:=gX ((l.attachWith Fh u).toArray);have b:d.size=n:=by rw[<-z,k,List.size_toArray];exact List.length_attachWith
 have f:d.toList.map (·.1)=l:=by rw[<-z];exact Nt u
 have o:d.toList.map (fun x=>Vg x.1)=l.map Vg:=by
  rw[show (fun x:{j // Fh j}=>Vg x.1)=Vg ∘ (·.1)from rfl,<-List.map_map,f]
 have hg:=(h.lt g rfl).2;have eg:∀args w,(callFunc 77 args).run Tryz.prog w = .ok (.enter 77 args) w:=enters_of Tryz.func77 kM rfl;have r:Ea 82 6 w base (Z (V ⟨g,0,X⟩) n c) (d.toList.map fun x=>Vg x.1):=by rw[o];exact h
 have hH:=CF (enc:=fun x:{j // Fh j}=>Vg x.1) (fun _=>rfl) r;have hO:∀x:{j // Fh j},∀v∈Vg x.1,v.oneCell'=true:=fun x v hv=>by
  simp[Vg,yh]at hv;rcases hv with rfl|rfl|rfl|rfl|rfl|rfl<;>rfl
 have R:=AnyQ.slices_SortFunc (P:=Tryz.prog) (ρ:=Tryz.sortJoint_ren) Tryz.sortJoint 6 Tryz.isAgg82 Tryz.sizeOf82 (fun x:{j // Fh j}=>Vg x.1) (fun _=>rfl) hO (fun x y=>fh x.1 y.1) Vz 77 #[] g 0 c d w eg (Zm g 0 d.size w) hH hg oM;rw[b]at R;refine R.mono ?_;rintro e w' ⟨rfl,d',m,os,⟨q1,_,q⟩,W,rfl⟩;rw[<-b]at q W;have q4:d'.toList.Perm d.toList:=by
  have e1:d'.extract 0 d.size=d':=by rw[<-q1];exact Array.extract_size
  rw[e1,Array.extract_size]at q;exact q
 refine⟨rfl,d'.toList.map (·.1),?_,?_,?_,XD _⟩
 ·rw[<-f];exact q4.map _
 ·rw[List.pairwise_map,List.pairwise_iff_getElem];intro i j K L p;simp at K L;have t:=W i j (Nat.zero_le _) p oM;rw[Bw,getElem!_pos d' i K,getElem!_pos d' j L,decide_eq_false_iff_not]at t;simpa using t
 ·have:=ZF (m:=m) (os:=os) (enc:=fun x:{j // Fh j}=>Vg x.1) (fun _=>rfl) (d':=d') r q1;rw[List.map_map];exact this
def FU(w:I)(ps:LP)(g:Nat)(t3 t4:M)(W:I):Prop:=
 ∃i:Nat,i<=ps.length/\t4=O Y (i:Nat)/\g=ps.length-i/\Ba w W/\Ea 91 2 W w.heap.size t3 ((ps.take i).map pc)
def rF w v ps(h:Ab w v ps)(ab:ps.length<=1000):Calls Tryz.prog 39 #[v] w fun e u=>∃v',e=.returned v'/\Ea 91 2 u w.heap.size v' (ps.map pc)/\Ba w u:=by
 obtain⟨a,c,rfl⟩:=h.form;obtain⟨n,hn⟩:=gX ps.length;rw[hn]at h ab ⊢;have p:=za hn;have H:=za h;obtain⟨R,hR⟩:∃R:Ending->I->Prop,(fun e u=>∃v',e=.returned v'/\Ea 91 2 u w.heap.size v' (ps.map pc)/\Ba w u)=R:=⟨_,rfl⟩;rw[hR];have HR:=za hR;clear hn h hR;go_in;go_wp2;go_loopg [3,4] n (FU w ps)
 case atStart=>exact⟨0,by omega,rfl,by rw[p.o];rfl,eR _,by simpa using Ea.nil _ _ _ _⟩
 case round =>
  obtain⟨i,hi,rfl,rfl,L,d⟩:=hrel;rw[p.o]at hi;obtain⟨va,vn,vc,rfl⟩:=d.i;have f:=za d;have W:=za L;by_cases aa:i<n
  ·obtain⟨⟨x,z⟩,r⟩:∃q,ps[i]?=V q:=⟨ps[i]'(by rw[p.o];omega),by simp[p.o,aa]⟩;obtain⟨b,o,rfl,hb,d0,d1⟩:=(H.o.f L).at' r;obtain⟨b0,o0,e0,ae,_⟩:=H.o.at' r;cases e0;dsimp only at d0 d1;have Hq:=za r;have p1:(0:Int)<=(i:Int):=oM;have p2:(i:Int)<(n:Int):=oM;clear r L d;go_wp2;refine jd [(⟨b,o+i*2,X⟩,O Y x),(⟨b,o+i*2+1,X⟩,O Y z)] ⟨d0,d1,trivial⟩ fun l=>?_;refine sN 0 ?_
   iterate 12 refine Db ?_
   refine oN ?_;refine Te (i:=12) fun K s=>?_;go_simp;refine kO s (cE l ((eR _).alloc _)) (fun l=>?_);clear s K;have y:Ba wr ((wr.alloc (N #[O Y x,O Y z] 91)).drew):=((eR wr).alloc _).drew;refine Te (i:=13) fun K s=>?_;refine kp (T:=91) (t:=36) (z:=G #[O Y 0,O Y 0]) (k:=2) (bytes:=16) (v:=Z va vn vc) (base:=w.heap.size) mo rfl dM dM Tryz.underlying36 rfl _ _ rfl rfl (f.o.ext y) (ad:=⟨wr.heap.size,0,X⟩) (m:=1) (c:=1) rfl [pc (x,z)] rfl (by simp[pc]) (by exact Nx wr x z 91) (Pp x z) (by rw[lL,List.length_take];omega) (by have:=y.size;have:=W.o.size;omega) ?_;intro v' w9 j g ac;obtain⟨a9,n9,c9,rfl⟩:=j.i;have zb:b<wr.heap.size:=hb;refine kO s (Da.grown l g (fun q r e=>?_)) (fun l=>?_)
   ·have h9:=(f.o.lt _ e.symm).1;simp at r;rcases r with rfl|rfl<;>(dsimp only at h9;omega)
   clear s K;refine La (i:=14) ?_;refine Pb ?_;go_wp2;go_roundg (n-(i+1))
   case measure=>have:=p.o;omega
   case rel =>
    refine⟨i+1,by have:=p.o;omega,by go_num,by rw[p.o],(W.o.trans y).D (Yg (base:=w.heap.size) g (by have:=y.size;have:=W.o.size;omega) (fun k hk=>(f.o.lt k hk).1)) (nE _),?_⟩;rw[ze _ _ _ Hq.o,List.map_append];exact j
  ·obtain rfl:n=i:=oM;have e:ps.take n=ps:=lT (by rw[p.o];exact nE _);rw[e]at d;go_wp2;rw[<-HR.o];exact⟨_,rfl,d,L⟩
def SN w t v R d l m o(h:Ab w v R)(ac:R.length<=1000):Calls Tryz.prog 79 #[G #[.string t,v,O Y d,O Y l,O Y m,O Y o]] w fun e w'=>∃v',e=.returned (G #[.string t,v',O Y d,O Y l,O Y m,O Y o])/\Ia w' v' R/\Ba w w'/\∀j,v'.ownBlock=V j->w.heap.size<=j:=by
 have HP:=za (fun W (hW:Ba w W)=>rF W v R (h.f hW) ac);obtain⟨a,n,c,rfl⟩:=h.i;clear h;go_in;go_wp2;refine jd [(⟨w.heap.size,0,X⟩,.string t),(⟨w.heap.size,1,X⟩,Z a n c),(⟨w.heap.size,2,X⟩,O Y d),(⟨w.heap.size,3,X⟩,O Y l),(⟨w.heap.size,4,X⟩,O Y m),(⟨w.heap.size,5,X⟩,O Y o)] cA fun r=>?_;refine sN 0 ?_
 iterate 4 refine Db ?_
 refine oN ?_;refine sN 5 ?_
 iterate 11 refine Db ?_
 refine oN ?_;refine Ac (i:=4) (HP.o _ eA) ?_;rintro e w3 ⟨v3,rfl,f,u⟩;obtain⟨y,L,z,rfl⟩:=f.i;refine⟨_,rfl,(cE r u),fun r=>?_⟩;refine La (i:=16) ?_;have ad:=f.pts;have k:=u.e (Ny w (N #[.string t,Z a n c,O Y d,O Y l,O Y m,O Y o] 76) (N #[.string ⟨#[]⟩,Z X 0 0,O Y 0,O Y 0,O Y 0,O Y 0] 93));have k0:=Aa k 0 (.string ⟨#[]⟩);have k1:=Aa k 1 (Z X 0 0);have k2:=Aa k 2 (O Y 0);have k3:=Aa k 3 (O Y 0);have k4:=Aa k 4 (O Y 0);have k5:=Aa k 5 (O Y 0);have kf:=Za k;have g:=za (show ∀q∈[((⟨w.heap.size,0,X⟩:U),Value.string t),(⟨w.heap.size,1,X⟩,Z a n c),(⟨w.heap.size,2,X⟩,O Y d),(⟨w.heap.size,3,X⟩,O Y l),(⟨w.heap.size,4,X⟩,O Y m),(⟨w.heap.size,5,X⟩,O Y o)],w.heap.size+1≠q.1.block from fun q hq h=>by
  simp at hq;rcases hq with rfl|rfl|rfl|rfl|rfl|rfl<;>(dsimp only at h;omega))
 have aa:Ba w w3:=((((eR w).alloc _).alloc _).drew).trans u;have b:=za k;clear k;refine Te (i:=17) fun K hK=>?_;go_simp;refine kO hK (Da.set (p:=⟨w.heap.size+1,5,X⟩) (Da.set (p:=⟨w.heap.size+1,4,X⟩) (Da.set (p:=⟨w.heap.size+1,3,X⟩) (Da.set (p:=⟨w.heap.size+1,2,X⟩) (Da.set (p:=⟨w.heap.size+1,1,X⟩) (Da.set (p:=⟨w.heap.size+1,0,X⟩) r g.o _) g.o _) g.o _) g.o _) g.o _) g.o _) (fun r=>?_);clear hK K;refine Pb ?_;go_wp2;obtain⟨W5,s⟩:=gX (((((((w3.setCell ⟨w.heap.size+1,0,X⟩ (.string t)).setCell ⟨w.heap.size+1,1,X⟩ (Z y L z)).setCell ⟨w.heap.size+1,2,X⟩ (O Y d)).setCell ⟨w.heap.size+1,3,X⟩ (O Y l)).setCell ⟨w.heap.size+1,4,X⟩ (O Y m)).setCell ⟨w.heap.size+1,5,X⟩ (O Y o)));have x:W5.heap[w.heap.size+1]?=V (N #[.string t,Z y L z,O Y d,O Y l,O Y m,O Y o] 93 (0,0)):=by
  rw[<-s];exact Qh (Qh (Qh (Qh (Qh (Qh b.o 0 _) 1 _) 2 _) 3 _) 4 _) 5 _
 have hk:Ja 91 w3 W5:=by
  rw[<-s];exact(((((Ja.refl 91 w3).set (p:=⟨w.heap.size+1,0,X⟩) b.o dM _).set (p:=⟨w.heap.size+1,1,X⟩) (Qh b.o 0 _) dM _).set (p:=⟨w.heap.size+1,2,X⟩) (Qh (Qh b.o 0 _) 1 _) dM _).set (p:=⟨w.heap.size+1,3,X⟩) (Qh (Qh (Qh b.o 0 _) 1 _) 2 _) dM _).set (p:=⟨w.heap.size+1,4,X⟩) (Qh (Qh (Qh (Qh b.o 0 _) 1 _) 2 _) 3 _) dM _ |>.set (p:=⟨w.heap.size+1,5,X⟩) (Qh (Qh (Qh (Qh (Qh b.o 0 _) 1 _) 2 _) 3 _) 4 _) dM _
 have ab:Ba w W5:=by
  rw[<-s];exact((((((aa.set dO _).set dO _).set dO _).set dO _).set dO _).set dO _)
 rw[s];have b0:=Aa x 0 (.string t);have b1:=Aa x 1 (Z y L z);have b2:=Aa x 2 (O Y d);have b3:=Aa x 3 (O Y l);have b4:=Aa x 4 (O Y m);have b5:=Aa x 5 (O Y o);exact bR (v:=G #[.string t,Z y L z,O Y d,O Y l,O Y m,O Y o]) (by simp[results,Tryz.results79,go_sem,b0,b1,b2,b3,b4,b5]) rfl ⟨_,rfl,ad.E hk,ab,fun j hj=>by have:=(f.lt j hj).1;simp only[wZ,Yb]at this;omega⟩
end
section
open Go.RowKit Go.Shelf Go.Sort Go.Lib
end
section
open Go.RowKit Go.Shelf Go.Sort
attribute [local go_sem] Oper.semAt_some
def gH(_:I)(c:List M)(j:Jt):Prop:=c=Vg j
abbrev Ye(w:I)(v:M)(l:List Jt):Prop:=Sl 82 6 gH w v l
def Ye.f{w w' v l}(h:Ye w v l)(k:Ba w w'):Ye w' v l:=Sl.ext h (fun _ _ h=>h) k
def Ye.at'{w a n c l}(h:Ye w (Z a n c) l){i j}(g:l[i]?=V j):∃b o,a=V ⟨b,o,X⟩/\b<w.heap.size/\∀(m:Nat) u,(yh j)[m]?=V u->w.cell? ⟨b,o+i*6+m,X⟩=V u:=by obtain⟨b,o,d,rfl,e,p,rfl,f⟩:=Sl.at h g;exact⟨b,o,rfl,e,fun m u k=>f m u (by unfold Vg;rw[Array.getElem?_toList];exact k)⟩
def Ea.jts{w base v l}(h:Ea 82 6 w base v (l.map Vg)):Ye w v l:=
 Ea.sl h sM (fun i c x a b=>by
  rw[lP,b]at a;cases a;rfl)
def qh(w:I)(a:Nat)(W W':I):Prop:=Below w.heap.size W W'/\W'.heap[a]?=W.heap[a]?/\W'.heap[a+1]?=W.heap[a+1]?
def qh.refl w a W:qh w a W W:=⟨Below.refl _ _,rfl,rfl⟩
def qh.trans{w a A B C}(h:qh w a A B)(k:qh w a B C):qh w a A C:=⟨h.1.trans k.1,k.2.1.trans h.2.1,k.2.2.trans h.2.2⟩
def qh.put{w a}{w0:I}(f:w.heap.size<=w0.heap.size)(g:a+1<w0.heap.size) W l o b(e:w0.heap.size<=l)(h:W.heap[l]?=V o)(c:o.isCells=false)(d:o.isWalk=false):qh w a W (W.putObj l b):=
 ⟨(Qe.put f (show a<w0.heap.size by omega) W l o b e h c d).1,(Qe.put f (show a<w0.heap.size by omega) W l o b e h c d).2,(Qe.put f g W l o b e h c d).2⟩
def qh.set{w a A B}(h:qh w a A B){p}(c:w.heap.size<=p.block)(d:p.block≠a)(b:p.block≠a+1) u:qh w a A (B.setCell p u):=
 ⟨(Qe.set ⟨h.1,h.2.1⟩ c d u).1,(Qe.set ⟨h.1,h.2.1⟩ c d u).2,(Qe.set ⟨h.1,h.2.2⟩ c b u).2⟩
def qh.ext{w a A B C}(h:qh w a A B)(k:Ba B C)(c:w.heap.size<=B.heap.size)(b:a+1<B.heap.size):qh w a A C:=
 ⟨h.1.trans (Below.mono k c),(k.block (show a<B.heap.size by omega)).trans h.2.1,(k.block b).trans h.2.2⟩
def qh.blk{w a A B}(h:qh w a A B){o}(k:A.heap[a]?=V o):B.heap[a]?=V o:=h.2.1.trans k
def qh.blk1{w a A B}(h:qh w a A B){o}(k:A.heap[a+1]?=V o):B.heap[a+1]?=V o:=h.2.2.trans k
def Pe(r:Ru)(L:List Jt)(k i:Nat):Bool:=match L[i]?,L[k]? with|some a,V b=>Qd r a b|_,_=>false
def Wf(r:Ru)(L:List Jt)(k:Nat):List Nat:=(List.range k).filter (Pe r L k)
def TF w(b k:Nat):Calls Tryz.prog 47 #[F (V ⟨b,0,X⟩),O Y k] w fun e d=>e=.returned (.func (.func 81) #[] #[F (V ⟨w.heap.size+1,0,X⟩),F (V ⟨w.heap.size,0,X⟩)])/\(w.alloc (N #[F (V ⟨b,0,X⟩)] 84)).alloc (N #[O Y k] 3)=d:=by have c:∀(a:Fn)(first cap:Array M)(w:I),(Instr.makeFunc a first cap).run Tryz.prog w = .ok (.func a first cap) w:=fun _ _ _ _=>rfl;go_in;go_wp2;go_ret;exact⟨rfl,rfl⟩
def lQ{r L k j}(h:Pe r L k j=true):(List.range (j+1)).filter (Pe r L k)=(List.range j).filter (Pe r L k)++[j]:=by rw[List.range_succ,List.filter_append];simp[h]
def mQ{r L k j}(h:Pe r L k j=false):(List.range (j+1)).filter (Pe r L k)=(List.range j).filter (Pe r L k):=by rw[List.range_succ,List.filter_append];simp[h]
def TO{r L k j}(h:j<=k):(List.range j).filter (Pe r L k) <+: Wf r L k:=by
 unfold Wf;refine List.IsPrefix.filter _ ?_;have:(List.range k).take j=List.range j:=by rw[List.take_range,Nat.min_eq_left h]
 rw[<-this];exact List.take_prefix _ _
def CK{r L k j}(h:j<k):((List.range j).filter (Pe r L k)).length<k:=by have:=List.length_filter_le (Pe r L k) (List.range j);rw[List.length_range]at this;omega
def DK n(hn:1<=n) l bx w w0 R r vg vp vs vj vr L k(hk:k<L.length)(an:∀j∈L,Fh j)(J Jx:List Nat->I->Prop)(hY:∀pre x W,J pre W->pre.length<k->x<k->YieldAt Fence.wide (n-1) Tryz.prog l #[O Y (x:Nat)] W fun e W' =>
   (e=.returned (.bool true)/\J (pre++[x]) W'/\qh w bx W W')\/(e=.returned (.bool false)/\Jx (pre++[x]) W'))
  (al:∀pre W W',J pre W->Ba W W'->J pre W')(aq:w.heap[R]?=V (N (nj r vg vp vs vj vr) 89 (0,0)))(t:Ye w vj L)
  (aA:w0.heap[bx]?=V (N #[F (V ⟨R,0,X⟩)] 84 (0,0)))(ad:w0.heap[bx+1]?=V (N #[O Y k] 3 (0,0)))(hw:Ba w w0) W(hW:qh w bx w0 W)(h0:J [] W) :
  CallsIn Fence.wide n Tryz.prog 81 #[.func (.yield l) #[] #[],F (V ⟨bx+1,0,X⟩),F (V ⟨bx,0,X⟩)] W fun e W'=>(∃v,e=.returned v)/\
   ((∃ys,ys=Wf r L k/\J ys W')\/(∃pre,pre <+: Wf r L k/\Jx pre W')):=by
 obtain⟨a,m,c,rfl⟩:=Ma t;have hm:=t.len;have ap:=t.le;unfold maxLen at ap;obtain⟨kj,ae⟩:∃q,L[k]?=V q:=⟨L[k]'hk,by simp⟩;rw[<-hm]at hk;have aG:m<=9223372036854775807:=oM;have aF:k<=9223372036854775807:=oM;have Hk:=za hk;have Hm:=za hm;have aj:=za an;have aE:=Ya ad;obtain⟨sk,y,g,u,step,z,d⟩:=r;have c1:=Aa (hW.blk1 ad) 0 (O Y k);clear an ap hk hm;refine callsIn_of_wp Tryz.func81 rfl trivial ?_ rfl;simp only[Tryz.ntmps81,List.size_toArray,List.length_cons,List.length_nil,Nat.reduceAdd,Nat.reduceSub,Array.replicate_succ,Array.replicate_zero,List.push_toArray,List.append_toArray,List.nil_append,List.cons_append]
 gi_wp2
 gi_loopw [6] (fun t6 wr=>∃j:Nat,j<=k/\t6=O Y (j:Nat)/\J ((List.range j).filter (Pe ⟨sk,y,g,u,step,z,d⟩ L k)) wr/\qh w bx w0 wr)
  (fun t6 _=>(k-intOf t6).toNat)
 case atStart=>exact⟨0,by omega,rfl,by simpa using h0,hW⟩
 case round =>
  obtain⟨j,hj,rfl,hJ,hx⟩:=hrel;have af:Ba w wr:=hw.D hx.1 (nE _);by_cases aC:j<k
  ·obtain⟨⟨ja,jb,jl,jr,jf,jt⟩,hq⟩:∃q,L[j]?=V q:=⟨L[j]'(by have:=Hk.o;have:=Hm.o;omega),by simp⟩;obtain⟨ka,kb,kl,kr,kf,kt⟩:=kj;obtain⟨b,o,rfl,hb,p⟩:=(t.f af).at' hq;obtain⟨b',o',e',_,s⟩:=(t.f af).at' ae;cases e';have HF:=za (fun W=>IS W sk y g u step z d ja jb jl jr jf jt ka kb kl kr kf kt (aj.o _ (lM hq)) (aj.o _ (lM ae)));obtain⟨fb,ah⟩:=gX (Qd ⟨sk,y,g,u,step,z,d⟩ ⟨ja,jb,jl,jr,jf,jt⟩ ⟨ka,kb,kl,kr,kf,kt⟩);rw[ah]at HF;have ao:Pe ⟨sk,y,g,u,step,z,d⟩ L k j=fb:=by unfold Pe;rw[hq,ae];exact ah
   have hs:=af.e aq;unfold nj at hs;dsimp only at hs;have s0:=Aa hs 0 (O S sk);have s1:=Aa hs 1 (O Y y);have s2:=Aa hs 2 (O Y g);have s3:=Aa hs 3 (O Y u);have s4:=Aa hs 4 (O Y step);have s5:=Aa hs 5 (O Y z);have s6:=Aa hs 6 (O Y d);have aD:=Aa hs 10 (Z (V ⟨b,o,X⟩) m c);have aw:=Aa (hx.blk aA) 0 (F (V ⟨R,0,X⟩));have ax:=Aa (hx.blk1 ad) 0 (O Y k);unfold yh at p s;dsimp only at p s;have a0:=p 0 (O Y ja) rfl;have a1:=p 1 (O Y jb) rfl;have a2:=p 2 (O Y jl) rfl;have a3:=p 3 (O Y jr) rfl;have a4:=p 4 (O Y jf) rfl;have a5:=p 5 (O Y jt) rfl;have k0:=s 0 (O Y ka) rfl;have k1:=s 1 (O Y kb) rfl;have k2:=s 2 (O Y kl) rfl;have k3:=s 3 (O Y kr) rfl;have k4:=s 4 (O Y kf) rfl;have k5:=s 5 (O Y kt) rfl;simp only[Nat.add_zero]at a0 k0;have p1:(0:Int)<=(j:Int):=oM;have p2:(j:Int)<(m:Int):=by have:=Hk.o;omega
   have p3:(0:Int)<=(k:Int):=oM;have p4:(k:Int)<(m:Int):=by have:=Hk.o;omega
   have p5:(j:Int)<(k:Int):=oM;have p6:j<m:=by have:=Hk.o;omega
   have p7:k<m:=Hk.o;have HJ:=za hJ;have HX:=za hx;have ak:=za ao;have aa:=za aC;have HY:=za hY;have av:=za al;clear p s hq ae ah hs ao hJ hx aq hY al t
   gi_wp2
   refine NG (fun i=>decide (21<i)) (Da [(⟨bx,0,X⟩,F (V ⟨R,0,X⟩)),(⟨bx+1,0,X⟩,O Y k),(⟨R,0,X⟩,O S sk),(⟨R,1,X⟩,O Y y),(⟨R,2,X⟩,O Y g),(⟨R,3,X⟩,O Y u),(⟨R,4,X⟩,O Y step),(⟨R,5,X⟩,O Y z),(⟨R,6,X⟩,O Y d),(⟨R,10,X⟩,Z (V ⟨b,o,X⟩) m c),
    (⟨b,o+j*6,X⟩,O Y ja),(⟨b,o+j*6+1,X⟩,O Y jb),(⟨b,o+j*6+2,X⟩,O Y jl),(⟨b,o+j*6+3,X⟩,O Y jr),(⟨b,o+j*6+4,X⟩,O Y jf),(⟨b,o+j*6+5,X⟩,O Y jt),
    (⟨b,o+k*6,X⟩,O Y ka),(⟨b,o+k*6+1,X⟩,O Y kb),(⟨b,o+k*6+2,X⟩,O Y kl),(⟨b,o+k*6+3,X⟩,O Y kr),(⟨b,o+k*6+4,X⟩,O Y kf),(⟨b,o+k*6+5,X⟩,O Y kt)]) kM ?_ (fun ab=>?_)
   ·exact cA
   clear s0 s1 s2 s3 s4 s5 s6 aD aw ax a0 a1 a2 a3 a4 a5 k0 k1 k2 k3 k4 k5;refine sN 0 ?_
   iterate 18 refine uo ?_
   refine oN ?_;refine Sj (i:=18) fun K f=>?_;go_simp;refine⟨trivial,(callsIn_wide.2 (HF.o _)).mono ?_⟩;rintro e w4 ⟨rfl,ar⟩;dsimp only;refine kO f (fun _=>cE ab ar) (fun ab=>?_);clear f K;have ab:=ab rfl;have X4:Ba wr w4:=((eR wr).drew).trans ar;have ac:=av.o _ _ _ HJ.o X4;have ag:=HX.o.ext X4 (nT hw.size HX.o.1.size) (Ya (HX.o.blk1 ad));have au:=za ac;have ai:=za ag;cases fb with
   |false=>
    clear ac ag;refine sN 19 ?_;refine uo ?_
    (iterate 2 refine Uz ?_);refine oN ?_;refine Sj (i:=22) fun K f=>?_;go_simp;refine kO f (fun h=>nomatch h) (fun _=>?_);clear f K;refine Sj (i:=23) fun K f=>?_;go_simp;refine kO f (fun h=>nomatch h) (fun _=>?_);clear f K;refine Sj (i:=24) fun K f=>?_;go_simp;refine kO f (fun h=>nomatch h) (fun _=>?_);clear f K;refine Yh kM ?_ _
    gi_wp2
    go_roundw
    case rel=>exact⟨j+1,by have:=aa.o;omega,by go_num,by rw[mQ ak.o];exact au.o,ai.o⟩
    case measure=>simp[intOf];omega
   |true=>
    obtain⟨fn,tmps,assign,body,hy,hR⟩:=HY.o _ j w4 ac (CK aa.o) aa.o;rw[<-lQ ak.o]at hR;have am:=CC hR;have HR:=za am;clear ac ag hR am;refine sN 19 ?_
    (iterate 3 refine uo ?_);refine oN ?_;refine Sj (i:=22) fun K f=>?_;go_simp;refine RoundIn.mono HR.o ?_;rintro e W3 ⟨bb,rfl,hA,hB⟩;dsimp only;refine kO f (fun h=>nomatch h) (fun _=>?_);clear f K;cases bb
    ·have az:=hB rfl;clear hA hB;refine Sj (i:=23) fun K f=>?_;go_simp;refine kO f (fun h=>nomatch h) (fun _=>?_);clear f K;refine Sj (i:=24) fun K f=>?_;go_simp;refine kO f (fun h=>nomatch h) (fun _=>?_);clear f K;refine Yh kM ?_ _
     gi_wp2
     refine bR (results_none rfl _ _ _) rfl ?_;exact⟨⟨_,rfl⟩,.inr ⟨_,TO (by have:=aa.o;omega),az⟩⟩
    ·obtain⟨ay,aB⟩:=hA rfl;clear hA hB;refine Sj (i:=23) fun K f=>?_;go_simp;refine kO f (fun h=>nomatch h) (fun _=>?_);clear f K;refine Sj (i:=24) fun K f=>?_;go_simp;refine kO f (fun h=>nomatch h) (fun _=>?_);clear f K;refine Yh kM ?_ _
     gi_wp2
     go_roundw
     case rel=>exact⟨j+1,by have:=aa.o;omega,by go_num,ay,ai.o.trans aB⟩
     case measure=>simp[intOf];omega
  ·obtain rfl:j=k:=oM
   gi_wp2
   go_end0
   exact⟨⟨_,rfl⟩,.inl ⟨_,rfl,hJ⟩⟩
def LE n(hn:1<=n) b w w0 u r K R vs v vr L(k:Nat)(hk:k<L.length)(o:∀j∈L,Fh j)(t:w.heap[u]?=V (N (nj r K R vs v vr) 89 (0,0)))(s:Ye w v L)(q:w0.heap[b]?=V (N #[F (V ⟨u,0,X⟩)] 84 (0,0)))(g:w0.heap[b+1]?=V (N #[O Y k] 3 (0,0)))(z:Ba w w0):SeqStopsK Fence.wide n Tryz.prog 81 #[F (V ⟨b+1,0,X⟩),F (V ⟨b,0,X⟩)] (fun x:{x:Nat // x<k}=>#[O Y (x.1:Nat)]) (qh w b) (fun ys=>ys.map (·.1)=Wf r L k) (fun pre=>pre.map (·.1) <+: Wf r L k) k w0:=
 fun l J Jx W hW hJ _ hY h0=>by
  have h:=DK n hn l b w w0 u r K R vs v vr L k hk o (fun pre W=>∃p:List {x:Nat // x<k},p.map (·.1)=pre/\J p W) (fun pre W=>∃p:List {x:Nat // x<k},p.map (·.1)=pre/\Jx p W)
   (fun pre x W ⟨p,m,hj⟩ y hx=>(hY p ⟨x,hx⟩ W hj (by rw[<-m,lL]at y;exact y)).mono (fun e W' h=>by
    rcases h with ⟨a,c,d⟩|⟨a,c⟩
    ·exact .inl ⟨a,⟨_,by rw[List.map_append,m];rfl,c⟩,d⟩
    ·exact .inr ⟨a,⟨_,by rw[List.map_append,m];rfl,c⟩⟩))
   (fun pre A A' ⟨p,m,h⟩ f=>⟨p,m,hJ _ _ _ X h ⟨f.os,f.tape,f.output,f.size,fun i hi _=>f.block hi⟩ (fun r e=>by cases e)⟩) t s q g z W ((qh.refl w b w0).ext hW z.size (Ya g)) ⟨[],rfl,h0⟩
  refine h.mono ?_;rintro e W' ⟨hv,h⟩;refine⟨hv,?_⟩;rcases h with ⟨ys,a,p,c,d⟩|⟨pre,a,p,c,d⟩
  ·exact .inl ⟨p,c.trans a,d⟩
  ·exact .inr ⟨p,by rw[<-c]at a;exact a,d⟩
end
section
open Go.RowKit Go.Shelf Go.Sort Go.Lib
def QC{f}{l:LP}{i q}(h:l[i]?=V q)(a:0<i):td f (l.take (i+1))=(if f q<(td f (l.take i)).1 then f q else (td f (l.take i)).1,if (td f (l.take i)).2<f q then f q else (td f (l.take i)).2):=by
 have b:=(lS.1 h).1;rw[ze l i q h,Tx (fun e=>by have:=congrArg List.length e;rw[List.length_take,List.length_nil]at this;omega)]
 ext
 ·dsimp only;split<;>omega
 ·dsimp only;split<;>omega
def fv{f}{l:LP}{q}(h:l[0]?=V q):td f (l.take 1)=(f q,f q):=by rw[ze l 0 q h];simp[td]
end
section
open Go Go.ChangeShapes Go.WideShapes Go.ChangeAt Go.RowKit
set_option maxRecDepth 100000
def fA:(Rows.jointRootsRow.inPlace==Tryz.prog.inPlace 6)=true:=kM
def TT:(Rows.jointRootsRow.unfollowed==Tryz.prog.unfollowed 6)=true:=kM
def ST:(Rows.jointRootsRow.recurses==Tryz.prog.recurses 6)=true:=kM
def RT:(Rows.jointRootsRow.named==Tryz.prog.varsNamed 6)=true:=kM
def QT:mapsRowed Tryz.prog=true:=kM
def PT:Tryz.prog.stopsHeard=true:=kM
def OT:Tryz.prog.mayEnter=true:=kM
def Vt:joinedFacts Tryz.prog 6 Tryz.f6 Rows.jointRootsSpec Rows.jointRootsRow=true:=by unfold joinedFacts;rw[fA,TT,ST,RT,QT,PT,OT,iy];kernel_rfl
set_option maxRecDepth 100000
def jA:Tryz.prog.mainIs=V (true, "0b56b37d40a0a025b95ec2492357019a609518001105f8d0db719b6fc7ceb768".toList):=kM
def iA:Tryz.prog.funcNamed "copestone/copestonelaw05.JointRoots"=V 6:=kM
def XT:([25,27].all fun u=>!Tryz.prog.wantsStandIn u)=true:=kM
def WT:false=Rows.jointRootsRow.goesBy Tryz.prog:=kM
def VT:false=Tryz.prog.looks []:=kM
end
section
open Go.RowKit Go.Shelf Go.Sort
def XS w r v L d k l m x s t u(h:Ab w v L)(aa:L.length<=1000):Calls Tryz.prog 40 #[G #[.string r,v,O Y d,O Y k,O Y l,O Y m,O Y x,O Y s,O Y t,O S u]] w fun e w'=>∃v',e=.returned (G #[.string r,v',O Y d,O Y k,O Y l,O Y m,O Y x,O Y s,O Y t,O S u])/\Ia w' v' L/\Ba w w'/\∀j,v'.ownBlock=V j->w.heap.size<=j:=by
 have HP:=za (fun W (hW:Ba w W)=>SN W r v L d k l m (h.f hW) aa);obtain⟨a,n,c,rfl⟩:=h.i;clear h;go_in;go_wp2;refine jd [(⟨w.heap.size,0,X⟩,.string r),(⟨w.heap.size,1,X⟩,Z a n c),(⟨w.heap.size,2,X⟩,O Y d),(⟨w.heap.size,3,X⟩,O Y k),(⟨w.heap.size,4,X⟩,O Y l),(⟨w.heap.size,5,X⟩,O Y m),(⟨w.heap.size,6,X⟩,O Y x),(⟨w.heap.size,7,X⟩,O Y s),(⟨w.heap.size,8,X⟩,O Y t),(⟨w.heap.size,9,X⟩,O S u)] cA fun g=>?_;refine sN 0 ?_
 iterate 2 refine Db ?_
 refine oN ?_;refine sN 3 ?_
 iterate 11 refine Db ?_
 refine oN ?_;refine Ac (i:=2) (HP.o _ eA) ?_;rintro e w3 ⟨v3,rfl,z,o,ab⟩;obtain⟨a3,n3,c3,rfl⟩:=Ma z;refine⟨_,rfl,(cE g o),fun g=>?_⟩;refine La (i:=14) ?_;have f:=o.e (Ny w (N #[.string r,Z a n c,O Y d,O Y k,O Y l,O Y m,O Y x,O Y s,O Y t,O S u] 78) (N #[.string ⟨#[]⟩,Z X 0 0,O Y 0,O Y 0,O Y 0,O Y 0,O Y 0,O Y 0,O Y 0,O S 0] 95));have k0:=Aa f 0 (.string ⟨#[]⟩);have k1:=Aa f 1 (Z X 0 0);have k2:=Aa f 2 (O Y 0);have k3:=Aa f 3 (O Y 0);have k4:=Aa f 4 (O Y 0);have k5:=Aa f 5 (O Y 0);have k6:=Aa f 6 (O Y 0);have k7:=Aa f 7 (O Y 0);have k8:=Aa f 8 (O Y 0);have k9:=Aa f 9 (O S 0);have kf:=Za f;have b:=za (show ∀q∈[((⟨w.heap.size,0,X⟩:U),Value.string r),(⟨w.heap.size,1,X⟩,Z a n c),(⟨w.heap.size,2,X⟩,O Y d),(⟨w.heap.size,3,X⟩,O Y k),(⟨w.heap.size,4,X⟩,O Y l),(⟨w.heap.size,5,X⟩,O Y m),(⟨w.heap.size,6,X⟩,O Y x),(⟨w.heap.size,7,X⟩,O Y s),(⟨w.heap.size,8,X⟩,O Y t),(⟨w.heap.size,9,X⟩,O S u)],w.heap.size+1≠q.1.block from fun q hq h=>by
  simp at hq;rcases hq with rfl|rfl|rfl|rfl|rfl|rfl|rfl|rfl|rfl|rfl<;>(dsimp only at h;omega))
 have R:Ba w w3:=((((eR w).alloc _).alloc _).drew).trans o;have y:=za f;clear f;refine Te (i:=15) fun K hK=>?_;go_simp;refine kO hK (Da.set (p:=⟨w.heap.size+1,9,X⟩) (Da.set (p:=⟨w.heap.size+1,8,X⟩) (Da.set (p:=⟨w.heap.size+1,7,X⟩) (Da.set (p:=⟨w.heap.size+1,6,X⟩) (Da.set (p:=⟨w.heap.size+1,5,X⟩) (Da.set (p:=⟨w.heap.size+1,4,X⟩) (Da.set (p:=⟨w.heap.size+1,3,X⟩) (Da.set (p:=⟨w.heap.size+1,2,X⟩) (Da.set (p:=⟨w.heap.size+1,1,X⟩) (Da.set (p:=⟨w.heap.size+1,0,X⟩) g b.o _) b.o _) b.o _) b.o _) b.o _) b.o _) b.o _) b.o _) b.o _) b.o _) (fun g=>?_);clear hK K;refine Pb ?_;go_wp2;have ad:=Ya y.o;have ac:Ia w3 (Z a3 n3 c3) L:=z;have n0:ud 91 w3 (w.heap.size+1):=by intro cs fr e;rw[y.o]at e;cases e
 refine bR (v:=G #[.string r,Z a3 n3 c3,O Y d,O Y k,O Y l,O Y m,O Y x,O Y s,O Y t,O S u]) (by simp[results,Tryz.results40,go_sem,k0,k1,k2,k3,k4,k5,k6,k7,k8,k9,kf]) rfl ⟨_,rfl,?_,?_,fun j hj=>by have:=ab j hj;simp only[wZ,Yb]at this;omega⟩
 ·refine ac.E ?_
  repeat(first|with_reducible exact Ja.refl _ _|(with_reducible refine Ja.y ?_ ?_ _)|with_reducible exact n0|with_reducible refine ud.set ?_ _ _)
 ·repeat(first|with_reducible exact R|(with_reducible refine Ba.set ?_ dO _))
def Xf(r:Ru)(j:JS):Bool:=j.p.skin==r.skin || j.p.skin==3
def Kb(r:Ru)(ps:List Pl):List JS:=(Se ps).filter (Xf r)
def qe(a b:JS):Jt:=⟨a.k,b.k,a.x.2,b.x.1,max a.z.1 b.z.1,min a.z.2 b.z.2⟩
def Gd(r:Ru)(c:List JS)(a b:JS):Bool:=(a.k != b.k)&&(decide ((qe a b).left<=(qe a b).right)&&(decide ((qe a b).right-(qe a b).left<=r.wide)&&(decide ((qe a b).fr<(qe a b).til)&&!Vd c (qe a b))))
def xg(r:Ru)(b:List JS)(a:JS):List Jt:=(b.filter (Gd r b a)).map (qe a)
def Fg(r:Ru)(a:List JS):List Jt:=a.flatMap (xg r a)
def Jh(r:Ru)(L:List Jt)(rs:List Int)(k:Nat)(a:Int):Int:=(Wf r L k).foldl (fun o i=>min o (rs.getD i 0)) a
def Wa(r:Ru)(L:List Jt):Nat->List Int
 | 0=>[]
 | k+1=>Wa r L k++[match L[k]? with|some j=>Jh r L (Wa r L k) k j.fr|none=>0]
def Tn r L:∀k,(Wa r L k).length=k
 | 0=>rfl
 | k+1=>by rw[Wa,lA,Tn r L k];rfl
structure Sv (w:I) (sb:Nat) (r:Ru) (vg vp vs vj vr:M) (ks:List (JS×M)) (L:List Jt) (rs:List Int):Prop where
 blk:w.heap[sb]?=V (N (nj r vg vp vs vj vr) 89 (0,0))
 skin:Ge w vs ks
 pts:∀j∈ks,Ia w j.2 j.1.p.shape
 joints:Ye w vj L
 roots:Ud w vr rs
def Sv.ext{w w' a r b d f c e ks L rs}(h:Sv w a r b d f c e ks L rs)(k:Ba w w'):Sv w' a r b d f c e ks L rs:=
 ⟨k.e h.blk,h.skin.f k,fun j g=>(h.pts j g).f k,h.joints.f k,h.roots.f k⟩
def gh(g:LP)(ps:List Pl)(r:Ru):Int:=if Eb g ps=0 then Cc r else Eb g ps
structure il (r:Ru) (ps:List Pl) (ks:List (JS×M)) (L:List Jt) (rs:List Int):Prop where
 skin:ks.map Prod.fst=Kb r ps
 perm:L.Perm (Fg r (Kb r ps))
 ord:L.Pairwise (fun a b=>¬fh b a<0)
 roots:rs=Wa r L L.length
def Oi(w:I)(a b:M)(g:LP)(ps:List Pl)(r:Ru)(e:Ending)(w':I):Prop:=
 (gh g ps r≠0/\e=.returned (.tuple #[.pointer X,O Y (gh g ps r)])/\Ba w w') \/
 (gh g ps r=0/\∃sb vs vj vr ks L rs,e=.returned (.tuple #[F (V ⟨sb,0,X⟩),O Y 0])/\Sv w' sb r a b vs vj vr ks L rs/\il r ps ks L rs/\Ba w w')
def Ge.keep{w w' v js}(h:Ge w v js)(k:Ja 113 w w'):Ge w' v js:=by obtain⟨a,b,d,e,f⟩:=h;exact⟨a,b,d,e.keep k,fun i c x g j=>f i c x g j⟩
def Ye.keep{w w' v l}(h:Ye w v l)(k:Ja 82 w w'):Ye w' v l:=by obtain⟨a,b,d,e,f⟩:=h;exact⟨a,b,d,e.keep k,fun i c x g j=>f i c x g j⟩
def Ud.keep{w w' v l}(h:Ud w v l)(k:Ja 3 w w'):Ud w' v l:=by obtain⟨a,b,d,e,f⟩:=h;exact⟨a,b,d,e.keep k,fun i c x g j=>f i c x g j⟩
def TI{j}(h:∃a n c,j.2=Z a n c):∀u∈jc j,u.oneCell'=true:=by obtain⟨j,v⟩:=j;obtain⟨a,n,c,rfl⟩:=h;intro u b;simp[jc,Ah]at b;rcases b with rfl|rfl|rfl|rfl|rfl|rfl|rfl|rfl|rfl|rfl|rfl|rfl|rfl|rfl|rfl<;>rfl
def UK:(Tryz.prog.info? 82).map (fun i=>(i.zero,i.size,i.bytes))=V (V (G #[O Y 0,O Y 0,O Y 0,O Y 0,O Y 0,O Y 0]),6,48):=kM
def gw:(Tryz.prog.info? 3).map (fun i=>(i.zero,i.size,i.bytes))=V (V (O Y 0),1,8):=kM
def tC{ps}(d:∀p∈ps,Fa p=true)(r:ps.length<=120){a b}(e:a∈Se ps)(f:b∈Se ps):Fh (qe a b):=by
 have l:=Qp d e;have m:=Qp d f;have g:∀{j:JS},j∈Se ps->0<=j.k/\j.k<=120:=fun {j} n=>by
  obtain⟨i,c⟩:=List.mem_iff_getElem?.1 n;unfold Se at c;rw[List.getElem?_mapIdx]at c;cases hp:ps[i]? with
  | none=>rw[hp]at c;cases c
  | some p =>
   have:=(lS.1 hp).1;rw[hp]at c;cases c;exact⟨Int.natCast_nonneg _,by show ((i:Nat):Int)<=120;omega⟩
 have o:=g e;have q:=g f;unfold Fh qe Bd;unfold Bd at l m;dsimp only;omega
end
section
open Go.RowKit Go.Shelf Go.Sort
attribute [local go_sem] Oper.semAt_some
def nI w c d g ps r(m:Ia w c g)(n:ld w d ps)(b:Gw w)(a:Eb g ps≠0):Calls Tryz.prog 38 #[G #[c,d],G (Uf r)] w (Oi w c d g ps r):=by
 have q:=za (fun W (j:Ba w W)=>Vy W c d g ps (m.f j) (n.f j) (b.ext j));obtain⟨x,z,y,rfl⟩:=Ma m;obtain⟨pa,pn,p,rfl⟩:=Ma n;obtain⟨R,i⟩:=gX (Oi w (Z x z y) (Z pa pn p) g ps r);rw[i];have v:=za i;have l:gh g ps r=Eb g ps:=by unfold gh;rw[if_neg a]
 obtain⟨k,t⟩:=gX (Eb g ps);rw[t]at l a q;have s:=za l;have f:=za a;have u0:(k != 0)=true:=by simpa using a
 obtain⟨sk,aa,u,L,step,ab,o⟩:=r;unfold Uf;clear m n b i l a t;go_in;go_wp2_with(go_at_call 48;refine cM (q.o _ eA) ?_;rintro e w3 ⟨rfl,K⟩);rw[<-v.o];exact .inl ⟨by rw[s.o];exact f.o,by rw[s.o];rfl,eA⟩
def mI w d f g ps r(o:Ia w d g)(p:ld w f ps)(b:Gw w)(j:Eb g ps=0)(a:Cc r≠0):Calls Tryz.prog 38 #[G #[d,f],G (Uf r)] w (Oi w d f g ps r):=by
 have t:=za (fun W (m:Ba w W)=>Vy W d f g ps (o.f m) (p.f m) (b.ext m));have HU:=za (fun W=>UE W r);obtain⟨K,gn,L,rfl⟩:=Ma o;obtain⟨pa,pn,s,rfl⟩:=Ma p;obtain⟨R,l⟩:=gX (Oi w (Z K gn L) (Z pa pn s) g ps r);rw[l];have z:=za l;have n:gh g ps r=Cc r:=by unfold gh;rw[if_pos j]
 rw[j]at t;obtain⟨k,v⟩:=gX (Cc r);rw[v]at n a HU;have u:=za n;have i:=za a;have u0:(k != 0)=true:=by simpa using a
 obtain⟨sk,ae,y,ad,step,af,q⟩:=r;unfold Uf at HU ⊢;dsimp only at HU;clear o p b l n a v j;go_in;go_wp2_with(first|(go_at_call 48;refine cM (t.o _ eA) ?_;rintro e x ⟨rfl,c⟩;obtain⟨aa,ab⟩:=c.cells;(have z3:=c.size);(simp only[wZ]at z3);(have y0:w.heap.size<x.heap.size:=oM);(have y1:w.heap.size+1<x.heap.size:=oM))|(go_at_call 10;refine cM (HU.o _) ?_;rintro e w4 ⟨rfl,ac⟩));rw[<-z.o];exact .inl ⟨by rw[u.o];exact i.o,by rw[u.o];rfl,eA⟩
def Wy{P n T t k bytes z w base v cs ops o a K Q E}(d:(P.info? T).map (fun i=>(i.zero,i.size,i.bytes))=V (V z,k,bytes))(q:z.cells.size=k)(hk:0<k)(p:bytes<=1000)(ht:P.underlying t=V (.slice T))(f:o.guard=X) s x(L:o.op = .call { callee:=.builtin .append,args:=#[s,x],argTypes:=#[t,t] })(hs:a.eval s=v)(l:Ea T k w base v cs){ad m c}(hx:a.eval x=Z (V ad) m c)
   ds(hm:ds.length=m)(W:∀c∈ds,c.length=k)(e:∀(j:Nat) u,ds.flatten[j]?=V u->w.cell? (ad.add j)=V u)(R:∀u∈ds.flatten,u.oneCell'=true)(g:cs.length+m<=100000000000)(b:base<=w.heap.size)
  (h:∀v' w',Ea T k w' base v' (cs++ds)->w.grownBy w' v.ownBlock->(v'.ownBlock=v.ownBlock\/v'.ownBlock=V w.heap.size)->K (a.put o.dst v') w') :
  if Region.wanted o (yielded ops a.tmps)=true then Oper.wpIn Fence.wide n P o a w K Q else E:=by
 have r:=kp (ops:=ops) (Q:=NQ Q) (E:=E) d q hk p ht f s x L hs l hx ds hm W e R g b h;have hw:Region.wanted o (yielded ops a.tmps)=true:=by simp[Region.wanted,f]
 rw[if_pos hw]at r ⊢;exact fF (fun c y=>by rw[L]at y;cases y) r
def KS{α:Type} f{xs:List α}{i x}(h:xs[i]?=V x):(xs.take (i+1)).filter f=(xs.take i).filter f++(if f x=true then [x]else []):=by
 rw[ze _ _ _ h,List.filter_append]
 congr 1
 by_cases a:f x=true<;>simp[a]
def XV(k d:I)(b:Nat)(r:Ru)(f g v5:M)(js:List (JS×M))(e:Nat)(a:M)(W:I):Prop:=
 ∃(i:Nat)(c:M),i<=js.length/\a=O Y (i:Nat)/\e=js.length-i/\d.grownBy W (V b)/\W.heap[b]?=V (N (nj r f g c (Z X 0 0) (Z X 0 0)) 89 (0,0))/\
  Ea 113 15 W d.heap.size c (((js.take i).filter fun j=>Xf r j.1).map jc)
def WV(d:I)(b:Nat)(r:Ru)(f g j:M)(ks:List (JS×M))(e:Nat)(a:M)(W:I):Prop:=
 ∃(i:Nat)(c:M),i<=ks.length/\a=O Y (i:Nat)/\e=ks.length-i/\d.grownBy W (V b)/\W.heap[b]?=V (N (nj r f g j c (Z X 0 0)) 89 (0,0))/\
  Ea 82 6 W d.heap.size c ((((ks.take i).map Prod.fst).flatMap (xg r (ks.map Prod.fst))).map Vg)
def Fw(e:I)(c:Nat)(r:Ru)(i k l:M)(ks:List (JS×M))(pre:List Jt)(a:JS×M)(f:Nat)(g:Nat)(b:M)(W:I):Prop:=
 ∃(j:Nat)(d:M),j<=ks.length/\b=O Y (j:Nat)/\g=ks.length-j/\e.grownBy W (V c)/\W.heap[c]?=V (N (nj r i k l d (Z X 0 0)) 89 (0,0))/\W.heap[f]?=V (N (Ah a) 113 (0,0))/\
  Ea 82 6 W e.heap.size d ((pre++(((ks.take j).map Prod.fst).filter (Gd r (ks.map Prod.fst) a.1)).map (qe a.1)).map Vg)
def Ia.keepT{w w' v l}(h:Ia w v l)(k:Ja 91 w w'):Ia w' v l:=by obtain⟨a,b,d,e,f⟩:=h;exact⟨a,b,d,e.keep k,fun i c x g j=>f i c x g j⟩
def Ea.ne_blk{T T' k w base v cs}(h:Ea T k w base v cs){b c d}(a:w.heap[b]?=V (N c T' d))(i:T'≠T):v.ownBlock≠V b:=by
 intro e;rcases h.2.2 with ⟨f,_⟩|⟨g,cap,cur,hv,_,j,_⟩
 ·rw[f]at e;cases e
 ·rw[hv]at e;cases e;rw[j]at a;cases a;exact i rfl
def fE r b a:(xg r b a).length<=b.length:=by unfold xg;rw[lL];exact List.length_filter_le _ _
def uy{α β:Type}{f:α->List β}{n}(h:∀a,(f a).length<=n):∀xs:List α,(xs.flatMap f).length<=xs.length*n
 | []=>by simp
 | x::xs=>by
  rw[List.flatMap_cons,lA,List.length_cons,Nat.add_mul];have:=h x;have:=uy h xs;omega
def VV(c:I)(d:Nat)(r:Ru)(g k l j:M)(L:List Jt)(f:Nat)(a:M)(ds:List Deferred)(W:I):Prop:=
 ∃(i:Nat)(e:M)(b:List Nat),i<=L.length/\a=O Y (i:Nat)/\f=L.length-i/\c.grownBy W (V d)/\W.heap[d]?=V (N (nj r g k l j e) 89 (0,0))/\
  Ea 3 1 W c.heap.size e ((Wa r L i).map ic)/\ds=rj b/\Vb W b/\∀D∈b,c.heap.size<=D
def LA(e d:Nat)(a5:Option U)(b c:Nat)(a:Act):Prop:=a.tmps.size=196/\a.tmps.getD 3 undef=F (V ⟨e,0,X⟩)/\a.tmps.getD 8 undef=F (V ⟨d+1,0,X⟩)/\a.tmps.getD 35 undef=Z a5 b c/\a.tmps.getD 36 undef=O Y b/\a.defers=[]
def KA(f e:Nat)(c:Option U)(b d:Nat)(a:Act):Prop:=a.tmps.size=196/\a.tmps.getD 3 undef=F (V ⟨f,0,X⟩)/\a.tmps.getD 8 undef=F (V ⟨e+1,0,X⟩)/\a.tmps.getD 67 undef=Z c b d/\a.tmps.getD 68 undef=O Y b/\a.defers=[]
def JA(k j g:Nat)(b c d:M)(f:Option U)(e i:Nat)(a:Act):Prop:=a.tmps.size=196/\a.tmps.getD 3 undef=F (V ⟨k,0,X⟩)/\a.tmps.getD 8 undef=F (V ⟨j+1,0,X⟩)/\a.tmps.getD 12 undef=F (V ⟨g,0,X⟩)/\
 a.tmps.getD 67 undef=b/\a.tmps.getD 68 undef=c/\a.tmps.getD 69 undef=d/\a.tmps.getD 76 undef=Z f e i/\a.tmps.getD 77 undef=O Y e/\a.defers=[]
def QA(l:I)(c:Nat)(r:Ru)(g j k i:M)(e:Option U)(b f:Nat)(L:List Jt)(d:Nat)(a:Act)(W:I):Prop:=
 VV l c r g j k i L d (a.tmps.getD 164 undef) a.defers W/\a.tmps.size=196/\a.tmps.getD 8 undef=F (V ⟨c+1,0,X⟩)/\a.tmps.getD 162 undef=Z e b f/\a.tmps.getD 163 undef=O Y b
def Lu(c b:Nat)(x:Nat)(a:Act):Prop:=a.tmps.size=196/\a.tmps.getD 8 undef=F (V ⟨c+1,0,X⟩)/\a.tmps.getD 18 undef=F (V ⟨b+1,0,X⟩)/\a.tmps.getD 19 undef=O Y (x:Nat)/\a.defers=[]
def uH(wr:I)(rs:List Int)(a:Int)(i:Nat)(pre:List {x:Nat // x<i})(W:I):Prop:=
 Ba wr W/\wr.heap.size+1+1+1+1<=W.heap.size/\W.heap[wr.heap.size+1]?=V (N #[O Y ((pre.map (·.1)).foldl (fun o i=>min o (rs.getD i 0)) a)] 3 (0,0))
end
section
open Go.RowKit Go.Shelf Go.Sort
def Am.keep{w w' c p}(h:Am w c p)(k:Ja 91 w w'):Am w' c p:=by obtain⟨v,a,b,d⟩:=h;exact⟨v,a,b.E k,d⟩
def Ea.ne_blkD{T T' k w base v cs}(h:Ea T k w base v cs){b c d}(a:w.heap[b]?=V (N c T' d))(i:T'≠T):v.ownBlock≠V b:=by
 intro e;rcases h.2.2 with ⟨f,_⟩|⟨g,cap,cur,hv,_,j,_⟩
 ·rw[f]at e;cases e
 ·rw[hv]at e;cases e;rw[j]at a;cases a;exact i rfl
def SK:(Tryz.prog.info? 95).map (fun i=>(i.zero,i.size,i.bytes))=V (V (G #[.string ⟨#[]⟩,Z X 0 0,O Y 0,O Y 0,O Y 0,O Y 0,O Y 0,O Y 0,O Y 0,O S 0]),10,104):=kM
def Np(L:Nat)(c:List M):Prop:=∀j,(c.getD 1 (.bool false)).ownBlock=V j->L<=j
def Nj(w:I)(base L:Nat)(v:M)(ps:List Pl):Prop:=∃cs,Ea 95 10 w base v cs/\cs.length=ps.length/\(∀(i:Nat) c p,cs[i]?=V c->ps[i]?=V p->Am w c p)/\∀c∈cs,Np L c
def Nj.own{w base L v ps}(h:Nj w base L v ps):uj w base v ps:=by obtain⟨a,b,c,d,_⟩:=h;exact⟨a,b,c,d⟩
def fU(w e:I)(a:Nat)(f k v3:M)(ps:List Pl)(g:Nat)(t4:M)(W:I):Prop:=
 ∃(i:Nat)(d:M)(b:List (List M)),i<=ps.length/\t4=O Y (i:Nat)/\g=ps.length-i/\e.grownBy W (V a)/\W.heap[a]?=V (N #[v3,d] 39 (0,0))/\
  Ea 95 10 W (a+1) d b/\b.length=i/\(∀(j:Nat) c p,b[j]?=V c->ps[j]?=V p->Am W c p)/\∀c∈b,Np a c
def BO w vg vp g ps(hg:Ab w vg g)(hp:Cf w vp ps)(a2:g.length<=1000)(aF:ps.length<=1000)(aG:∀p∈ps,p.shape.length<=1000):Calls Tryz.prog 12 #[G #[vg,vp]] w fun e w'=>∃vg' vp' L,e=.returned (G #[vg',vp'])/\Ea 91 2 w' w.heap.size vg' (g.map pc)/\(∀j,vg'.ownBlock=V j->j<L)/\Nj w' w.heap.size L vp' ps/\Ba w w':=by
 have aR:=za (fun W (hW:Ba w W)=>rF W vg g (hg.f hW) a2);obtain⟨ga,gn,gc,rfl⟩:=hg.i;obtain⟨pa,pn,ag,rfl⟩:=hp.i;have Hn:=za hp.len.symm;have Hp:=za hp;have aX:=za aG;have bu:pn<=1000:=by rw[hp.len];exact aF
 obtain⟨R,hR⟩:∃R:Ending->I->Prop,(fun e w'=>∃vg' vp' L,e=.returned (G #[vg',vp'])/\Ea 91 2 w' w.heap.size vg' (g.map pc)/\(∀j,vg'.ownBlock=V j->j<L)/\Nj w' w.heap.size L vp' ps/\Ba w w')=R:=⟨_,rfl⟩;rw[hR];have HR:=za hR;clear hg hp hR aG aF;go_in;go_wp2_with(go_at_call 39;refine cM (aR.o _ eA) ?_;rintro e w3 ⟨v3,rfl,s,am⟩;obtain⟨a3,n3,c3,rfl⟩:=s.i);have K0:=am.e (VD w (N #[Z ga gn gc,Z pa pn ag] 25) (N #[Z X 0 0,Z X 0 0] 39));have K1:=am.e (Ny w (N #[Z ga gn gc,Z pa pn ag] 25) (N #[Z X 0 0,Z X 0 0] 39));obtain⟨b3,ai⟩:=gX w3.heap.size;obtain⟨w4,af⟩:=gX (w3.alloc (N #[Z a3 n3 c3,Z X 0 0] 39));have ac:Ba w3 w4:=by rw[<-af];exact(eR w3).alloc _
 have bb:w4.heap.size=b3+1:=by rw[<-af];simp[ai]
 have aw:w4.heap[b3]?=V (N #[Z a3 n3 c3,Z X 0 0] 39 (0,0)):=by rw[<-af];exact mc _ _ _ ai.symm
 have aA:Ba w w4:=(((((eR w).alloc _).alloc _).trans am).trans ac);have aI:=s.ext ac;have aJ:∀j,(Value.slice a3 n3 c3).ownBlock=V j->w.heap.size+1<j/\j<b3:=fun j hj=>by
  obtain⟨q1,q2⟩:=s.lt j hj;simp only[wZ,Yb]at q1;exact⟨by omega,by omega⟩
 have bc:=Ya K1;rw[ai]at bc ⊢;rw[af];have aO:=za (ac.e K0);have aP:=za (ac.e K1);have au:=za aw;have aS:=za aA;have aY:=za aI;have aZ:=za aJ;clear K0 K1 af ac aw aA aI aJ s am ai;go_wp2;go_loopg [4] pn (fU w w4 b3 (Z ga gn gc) (Z pa pn ag) (Z a3 n3 c3) ps)
 case atStart=>exact⟨0,_,[],by omega,rfl,by rw[Hn.o];rfl,Mn _ _,au.o,by rw[<-bb];exact Ea.nil _ _ _ _,rfl,fun j c p a=>by simp at a,fun c a=>by cases a⟩
 case round =>
  obtain⟨i,vs,cs,hi,rfl,rfl,u,ae,r,aC,al,ak⟩:=hrel;rw[Hn.o]at hi;obtain⟨va,vn,vc,rfl⟩:=r.i;have aH:=u.size;have aj:=(u.block w.heap.size oM (by simp;omega)).trans aO.o;have bf:=Aa aj 0 (Z ga gn gc);have bg:=Aa aj 1 (Z pa pn ag);have bi:=Aa ae 1 (Z va vn vc);have bh:=Aa ae 0 (Z a3 n3 c3);have ar:Ba w wr:=Rp aS.o u oM;by_cases a6:i<pn
  ·obtain⟨p,hq⟩:∃q,ps[i]?=V q:=⟨ps[i]'(by rw[Hn.o];omega),by simp[Hn.o,a6]⟩;obtain⟨b,o,v,rfl,hb,hv,ba,a⟩:=(Hp.o.f ar).at' hq;obtain⟨b0,o0,v0,e0,bs,_,_,_⟩:=Hp.o.at' hq;cases e0;have aQ:=za (fun W (hW:Ba wr W)=>XS W p.name v p.shape p.depth p.density p.gx p.gz p.way p.ax p.az p.skin (hv.f hW) (aX.o p (lM hq)));obtain⟨sa,sn,sc,rfl⟩:=hv.i;have a1:=a 0 (.string p.name) rfl;have bj:=a 1 (Z sa sn sc) rfl;have bk:=a 2 (O Y p.depth) rfl;have bl:=a 3 (O Y p.density) rfl;have bm:=a 4 (O Y p.gx) rfl;have bn:=a 5 (O Y p.gz) rfl;have bo:=a 6 (O Y p.way) rfl;have bp:=a 7 (O Y p.ax) rfl;have bq:=a 8 (O Y p.az) rfl;have br:=a 9 (O S p.skin) rfl;simp only[Nat.add_zero]at a1;have Hq:=za hq;have aV:=za u;have aU:=za ae;have aa:=za r;have ap:=za al;have ao:=za ak;have p1:(0:Int)<=(i:Int):=oM;have p2:(i:Int)<(pn:Int):=oM;clear hq hv a u ae r al ak aj;go_wp2;refine Ti (fun i=>decide (10<i)) (Da [(⟨b3,1,X⟩,Z va vn vc),(⟨w.heap.size,1,X⟩,Z (V ⟨b,o,X⟩) pn ag),(⟨b,o+i*10,X⟩,.string p.name),(⟨b,o+i*10+1,X⟩,Z sa sn sc),(⟨b,o+i*10+2,X⟩,O Y p.depth),(⟨b,o+i*10+3,X⟩,O Y p.density),(⟨b,o+i*10+4,X⟩,O Y p.gx),(⟨b,o+i*10+5,X⟩,O Y p.gz),(⟨b,o+i*10+6,X⟩,O Y p.way),(⟨b,o+i*10+7,X⟩,O Y p.ax),(⟨b,o+i*10+8,X⟩,O Y p.az),(⟨b,o+i*10+9,X⟩,O S p.skin)]) kM ?_ (fun l=>?_)
   ·exact cA
   refine sN 0 ?_
   iterate 7 refine Ui ?_
   refine oN ?_;refine Sr (i:=7) (aQ.o _ (eR wr).drew) ?_;rintro e w7 ⟨v7,rfl,aK,aM,a8⟩;obtain⟨a7,n7,c7,rfl⟩:=Ma aK;refine⟨_,rfl,(cE l aM),fun l=>?_⟩;have X7:Ba wr w7:=((eR wr).drew).trans aM;refine Ed (i:=8) fun K hK=>?_;go_simp;refine kO hK (fun _=>cE l ((eR _).alloc _)) (fun l=>?_);clear hK K;have l:=l rfl;have hA:Ba wr (w7.alloc (N #[.string p.name,Z a7 n7 c7,O Y p.depth,O Y p.density,O Y p.gx,O Y p.gz,O Y p.way,O Y p.ax,O Y p.az,O S p.skin] 95)):=X7.alloc _;refine Ed (i:=9) fun K hK=>?_;refine kp (T:=95) (t:=37) (z:=G #[.string ⟨#[]⟩,Z X 0 0,O Y 0,O Y 0,O Y 0,O Y 0,O Y 0,O Y 0,O Y 0,O S 0]) (k:=10) (bytes:=104) (v:=Z va vn vc) (base:=b3+1) SK rfl dM dM Tryz.underlying37 rfl _ _ rfl rfl (cs:=cs) (aa.o.ext hA) (ad:=⟨w7.heap.size,0,X⟩) (m:=1) (c:=1) rfl [(#[.string p.name,Z a7 n7 c7,O Y p.depth,O Y p.density,O Y p.gx,O Y p.gz,O Y p.way,O Y p.ax,O Y p.az,O S p.skin]:Array M).toList] rfl sM (by exact Mo w7 #[.string p.name,Z a7 n7 c7,O Y p.depth,O Y p.density,O Y p.gx,O Y p.gz,O Y p.way,O Y p.ax,O Y p.az,O S p.skin] 95) (by simp[Value.oneCell']) oM (by have:=hA.size;omega) ?_;intro v' w9 d n be;obtain⟨a9,n9,c9,rfl⟩:=d.i;have ab:=za (fun j (h:(Value.slice va vn vc).ownBlock=V j)=>aa.o.lt j h);refine kO hK (fun _=>Da.grown l n (fun q hq e=>?_)) (fun l=>?_)
   ·have h9:=(ab.o _ e.symm).1;simp at hq;rcases hq with rfl|rfl|rfl|rfl|rfl|rfl|rfl|rfl|rfl|rfl|rfl|rfl<;>(dsimp only at h9;omega)
   clear hK K;have l:=l rfl;refine so (i:=10) ?_;have ah:=Gh n (hA.e aU.o) (fun e=>by have:=(ab.o _ e.symm).1;omega);have n1:=Aa ah 1 (Z va vn vc);have nf:=Za ah;have aD:Ja 91 wr w9:=fun x c f hx=>Gh n (hA.e hx) (fun e=>by
    have h8:=(aa.o.ext hA).ne_blkD (hA.e hx) dM;exact h8 e.symm)
   have an:=za ah;have aW:=za aD;clear ah aD;refine Ed (i:=11) fun K hK=>?_;go_simp;refine kO hK (fun h=>nomatch h) (fun l=>?_);clear hK K;refine Ub kM ?_ _;go_wp2;go_roundg (pn-(i+1))
   case measure=>have:=Hn.o;omega
   case rel =>
    have aE:Ja 91 wr (w9.setCell ⟨b3,1,X⟩ (Z a9 n9 c9)):=aW.o.set (p:=⟨b3,1,X⟩) an.o dM _;refine⟨i+1,Z a9 n9 c9,cs++[#[.string p.name,Z a7 n7 c7,O Y p.depth,O Y p.density,O Y p.gx,O Y p.gz,O Y p.way,O Y p.ax,O Y p.az,O S p.skin].toList],by rw[Hn.o];omega,by go_num,by rw[Hn.o],Bk (Ck aV.o ((Below.mono hA aH).trans (Yg (base:=w4.heap.size) n (nT aH hA.size) (fun k hk=>by have:=(ab.o k hk).1;omega)))) 1 _,Qh an.o 1 _,d.setOther (fun e=>by have:=(d.lt _ e).1;dsimp only at this;omega) _,by simp[aC],?_,?_⟩;rotate_left
    ·intro c a;rcases List.mem_append.1 a with a|a
     ·exact ao.o c a
     ·rw[List.mem_singleton.1 a];intro j hj;have h1:=a8 j hj;simp only[Yb]at h1;omega
    intro j c x a hx;by_cases hj:j<cs.length
    ·rw[List.getElem?_append_left hj]at a;exact(ap.o j c x a hx).keep aE
    ·rw[List.getElem?_append_right oM]at a;have hl:=(lS.1 a).1;simp at hl;have a4:j-cs.length=0:=oM;rw[a4]at a;have a5:j=i:=oM;subst a5;rw[Hq.o]at hx;cases hx;simp at a;subst a;refine⟨Z a7 n7 c7,rfl,?_,ba⟩;have h1:Ia (w7.alloc (N #[.string p.name,Z a7 n7 c7,O Y p.depth,O Y p.density,O Y p.gx,O Y p.gz,O Y p.way,O Y p.ax,O Y p.az,O S p.skin] 95)) (Z a7 n7 c7) p.shape:=aK.f ((eR _).alloc _);have h2:Ja 91 (w7.alloc (N #[.string p.name,Z a7 n7 c7,O Y p.depth,O Y p.density,O Y p.gx,O Y p.gz,O Y p.way,O Y p.ax,O Y p.az,O S p.skin] 95)) w9:=fun x c f hx=>Gh n hx (fun e=>by
      have h8:=(aa.o.ext hA).ne_blkD hx dM;exact h8 e.symm)
     exact(h1.E h2).E ((Ja.refl _ w9).set (p:=⟨b3,1,X⟩) an.o dM _)
  ·obtain rfl:pn=i:=oM;have y:=(u.block (w.heap.size+1) oM (by simp;omega)).trans aP.o;have r0:=Aa y 0 (Z X 0 0);have r1:=Aa y 1 (Z X 0 0);have rf:=Za y;have aL:Ea 91 2 wr (w.heap.size+1+1) (Z a3 n3 c3) (g.map pc):=(aY.o.keep (Jm u au.o dM)).mono (by simp only[wZ,Yb];omega);have zr:=Ya y;have ay:Ja 91 wr ((wr.setCell ⟨w.heap.size+1,0,X⟩ (Z a3 n3 c3)).setCell ⟨w.heap.size+1,1,X⟩ (Z va vn vc)):=((Ja.refl _ wr).set (p:=⟨w.heap.size+1,0,X⟩) y dM _).set (p:=⟨w.heap.size+1,1,X⟩) (Qh y 0 _) dM _;have aB:Ba w ((wr.setCell ⟨w.heap.size+1,0,X⟩ (Z a3 n3 c3)).setCell ⟨w.heap.size+1,1,X⟩ (Z va vn vc)):=(ar.set dO _).set dO _;have d:=(((r.setOther (p:=⟨w.heap.size+1,0,X⟩) (fun e=>by have:=(r.lt _ e).1;dsimp only at this;omega) (Z a3 n3 c3)).setOther (p:=⟨w.heap.size+1,1,X⟩) (fun e=>by have:=(r.lt _ e).1;dsimp only at this;omega) (Z va vn vc))).mono (b':=w.heap.size) oM;have bt:=Qh (Qh y 0 (Z a3 n3 c3)) 1 (Z va vn vc);have aq:=za d;have av:=za ay;have aT:=za aB;have a0:=za aL;have ap:=za al;have ao:=za ak;clear d ay aB aL al ak r u aj ae ar;go_wp2;refine bR (v:=G #[Z a3 n3 c3,Z va vn vc]) (by simp[results,Tryz.results12,go_sem,r0,r1,rf]) rfl ?_;rw[<-HR.o];exact⟨_,_,b3,rfl,(a0.o.keep av.o).mono oM,fun j hj=>(aZ.o j hj).2,⟨cs,aq.o,by rw[aC,Hn.o],fun j c p a hx=>(ap.o j c p a hx).keep av.o,ao.o⟩,aT.o⟩
def CO w d f g ps(m:Ab w d g)(n:Cf w f ps)(a:g.length<=1000)(b:ps.length<=1000)(c:∀p∈ps,p.shape.length<=1000):Calls Tryz.prog 12 #[G #[d,f]] w fun e i=>∃vg' vp',e=.returned (G #[vg',vp'])/\Ia i vg' g/\uj i w.heap.size vp' ps/\Ba w i:=
 (BO w d f g ps m n a b c).mono fun _ _ ⟨vg',vp',_,l,j,_,k,o⟩=>⟨vg',vp',l,j.pts,k.own,o⟩
end
section
open Go.RowKit Go.Shelf Go.Sort Go.Lib
def Yy r L:∀ m k i ,i<k->k<=m->(Wa r L m).getD i 0=(Wa r L k).getD i 0
 | 0,k,i,a,b=>absurd a (by omega)
 | m+1,k,i,a,b=>by
  by_cases h:k=m+1
  ·rw[h]
  ·rw[<-Yy r L m k i a (by omega)];show (Wa r L m++_).getD i 0=_;rw[gD,List.getElem?_append_left (by rw[Tn];omega),<-gD]
end
section
open Go.RowKit Go.Shelf Go.Sort
attribute [local go_sem] Oper.semAt_some
def PO Q(w w5:I) R sk x g s step y b ga gn gc pa pn aA a5 n5 k5 js(aq:Ge w5 (Z a5 n5 k5) js)(ar:n5<=120)(aF:∀j∈js,∃w',Ia w' j.2 j.1.p.shape)(aD:w5.heap[w.heap.size+1]?=V (N #[O S sk,O Y x,O Y g,O Y s,O Y step,O Y y,O Y b] 32 (0,0)))(aE:w5.heap[R]?=V (N (nj ⟨sk,x,g,s,step,y,b⟩ (Z ga gn gc) (Z pa pn aA) (Z X 0 0) (Z X 0 0) (Z X 0 0)) 89 (0,0)))(am:w5.heap[R+1]?=V (N #[F (V ⟨R,0,X⟩)] 84 (0,0)))(bl:w.heap.size+1<R) a0(aR:LA (w.heap.size+1) R a5 n5 k5 a0)(aS:a0.tmps.getD 37 undef=O Y (0:Nat))(hQ:∀a W vs,LA (w.heap.size+1) R a5 n5 k5 a->w5.grownBy W (V R)->W.heap[R]?=V (N (nj ⟨sk,x,g,s,step,y,b⟩ (Z ga gn gc) (Z pa pn aA) vs (Z X 0 0) (Z X 0 0)) 89 (0,0))->Ea 113 15 W w5.heap.size vs ((js.filter fun j=>Xf ⟨sk,x,g,s,step,y,b⟩ j.1).map jc)->Q (.exit 0) a W):(Code.loop (Tb Tryz.f38 0)).wpIn Fence.wide 5 Tryz.prog Q a0 w5:=by
 have aT:=Ya am;have aI:=aq.len;have Hn:=za aI.symm;have bc:n5<=9223372036854775807:=oM;have aP:=za ar;have aM:=za aq;have aO:=za (fun j hj=>aF j hj);have aK:=za aD;have aB:=za aE;have aL:=za am;have HQ:=za hQ;clear aq aF aD aE am aI hQ;unfold Tb;simp only[Tryz.f38,Jb,List.cons_append,List.nil_append,List.append_nil,List.getD_cons_succ,List.getD_cons_zero];refine wpIn_loop_ghost_k (fun gk a W=>XV w5 w5 R ⟨sk,x,g,s,step,y,b⟩ (Z ga gn gc) (Z pa pn aA) (Z a5 n5 k5) js gk (a.tmps.getD 37 undef) W/\LA (w.heap.size+1) R a5 n5 k5 a) n5 ?h0 ?round
 case h0=>exact⟨⟨0,_,by omega,aS,by rw[Hn.o];rfl,Mn _ _,aB.o,by simpa using Ea.nil _ _ _ _⟩,aR⟩
 case round =>
  intro gk aa wr hinv;obtain⟨tt,dd⟩:=aa;obtain⟨⟨i,vs,hi,ak,rfl,ab,aw,L⟩,f1,f3,f8,ai,aj,fd⟩:=hinv;dsimp only at f1 f3 f8 ai aj fd ak;subst fd;obtain⟨u,hu,ht⟩:=Qf tt 196 f1;simp only[hu]at f3 f8 ai aj ak;clear hu;subst ht;simp only[List.range,List.range.loop,List.map_cons,List.map_nil,f3,f8,ai,aj,ak];clear f1 f3 f8 ai aj ak;intro J K hJ hK;rw[Hn.o]at hi;have ay:=ab.size;have al:=za ab;have ah:=za aw;have au:=(ab.block (R+1) aT sM).trans aL.o;have av:=(ab.block (w.heap.size+1) oM (by simp;omega)).trans aK.o;have be:=Aa au 0 (F (V ⟨R,0,X⟩));by_cases aH:i<n5
  ·obtain⟨⟨⟨⟨nm,sh,d,de,gx,gz,wy,ax,az,f⟩,k,⟨xl,xh⟩,zl,zh⟩,v⟩,hq⟩:∃q,js[i]?=V q:=⟨js[i]'(by rw[Hn.o];omega),by simp[Hn.o,aH]⟩;obtain⟨va,vn,vc,aJ⟩:=(aO.o _ (lM hq)).elim fun _ h=>Ma h;dsimp only at aJ;subst aJ;have aG:=aM.o.keep (Jm ab aB.o dM);obtain⟨bk,o,rfl,hb,n⟩:=aG.at' hq;unfold Ah at n;dsimp only at n;have aQ:=n 0 (.string nm) rfl;have a1:=n 1 (Z va vn vc) rfl;have a2:=n 2 (O Y d) rfl;have a3:=n 3 (O Y de) rfl;have a4:=n 4 (O Y gx) rfl;have a6:=n 5 (O Y gz) rfl;have a7:=n 6 (O Y wy) rfl;have a8:=n 7 (O Y ax) rfl;have ba:=n 8 (O Y az) rfl;have bb:=n 9 (O S f) rfl;have aU:=n 10 (O Y k) rfl;have aV:=n 11 (O Y xl) rfl;have aW:=n 12 (O Y xh) rfl;have aX:=n 13 (O Y zl) rfl;have aY:=n 14 (O Y zh) rfl;simp only[Nat.add_zero]at aQ;have bf:=Aa av 0 (O S sk);have bh:w.heap.size+1<wr.heap.size:=oM;have bi:R+1<wr.heap.size:=oM;have bj:R<wr.heap.size:=oM;obtain⟨ib,ap⟩:=gX (Xf ⟨sk,x,g,s,step,y,b⟩ ⟨⟨nm,sh,d,de,gx,gz,wy,ax,az,f⟩,k,(xl,xh),zl,zh⟩);have ao:=KS (fun j:JS×M=>Xf ⟨sk,x,g,s,step,y,b⟩ j.1) hq;simp only[ap]at ao;have aC:=za ao;have l:=za L;have ag:((f==sk) || (f==3))=ib:=ap;have p6:i<n5:=aH;clear hq n ap ao L ab aw aG au av;have HJ:=za hJ;cases ib with
   |false=>
    rw[Bool.or_eq_false_iff]at ag;obtain⟨q1,q2⟩:=ag
    gi_wp2
    refine Handed.intro (n5-(i+1)) (by have:=Hn.o;omega) (hJ _ _ _ ⟨?rel,rfl,rfl,rfl,rfl,rfl,rfl⟩)
    case rel =>
     have hE:=(eR wr).alloc (N #[.string nm,Z va vn vc,O Y d,O Y de,O Y gx,O Y gz,O Y wy,O Y ax,O Y az,O S f,O Y k,O Y xl,O Y xh,O Y zl,O Y zh] 113);refine⟨i+1,_,by have:=Hn.o;omega,by show (_:M)=_;go_num,by rw[Hn.o],Ck al.o (Below.mono hE ay),hE.e ah.o,?_⟩;rw[aC.o];simpa using l.o.ext hE
   |true=>
    obtain⟨wa,wn,wc,rfl⟩:=l.o.i;have bg:=Aa ah.o 9 (Z wa wn wc);have af:=za (fun j (h:(Value.slice wa wn wc).ownBlock=V j)=>l.o.lt j h);(have n:(f==sk)=true\/((f==sk)=false/\(f==3)=true):=by cases q1:(f==sk)<;>simp_all);clear ag;rcases n with q1|⟨q1,q2⟩
    all_goals
     gi_wp2
     refine Qz (fun i=>decide (9<i)) (Da [(⟨R+1,0,X⟩,F (V ⟨R,0,X⟩)),(⟨R,9,X⟩,Z wa wn wc),(⟨wr.heap.size,0,X⟩,.string nm),(⟨wr.heap.size,1,X⟩,Z va vn vc),(⟨wr.heap.size,2,X⟩,O Y d),(⟨wr.heap.size,3,X⟩,O Y de),(⟨wr.heap.size,4,X⟩,O Y gx),(⟨wr.heap.size,5,X⟩,O Y gz),(⟨wr.heap.size,6,X⟩,O Y wy),(⟨wr.heap.size,7,X⟩,O Y ax),(⟨wr.heap.size,8,X⟩,O Y az),(⟨wr.heap.size,9,X⟩,O S f),(⟨wr.heap.size,10,X⟩,O Y k),(⟨wr.heap.size,11,X⟩,O Y xl),(⟨wr.heap.size,12,X⟩,O Y xh),(⟨wr.heap.size,13,X⟩,O Y zl),(⟨wr.heap.size,14,X⟩,O Y zh)]) kM ?_ (fun r=>?_)
     ·exact cA
     refine sN 0 ?_
     (iterate 6 refine uo ?_);refine oN ?_;refine Sj (i:=6) fun K hK=>?_;go_simp;refine kO hK (fun _=>cE r ((eR _).alloc _)) (fun r=>?_);clear hK K;have r:=r rfl;have hA:Ba wr (((wr.alloc (N #[.string nm,Z va vn vc,O Y d,O Y de,O Y gx,O Y gz,O Y wy,O Y ax,O Y az,O S f,O Y k,O Y xl,O Y xh,O Y zl,O Y zh] 113)).alloc (N #[.string nm,Z va vn vc,O Y d,O Y de,O Y gx,O Y gz,O Y wy,O Y ax,O Y az,O S f,O Y k,O Y xl,O Y xh,O Y zl,O Y zh] 113)).drew):=(((eR wr).alloc _).alloc _).drew;refine Sj (i:=7) fun K hK=>?_;refine Wy (T:=113) (t:=87) (z:=G Pr) (k:=15) (bytes:=144) (v:=Z wa wn wc) (base:=w5.heap.size) xx rfl dM dM Tryz.underlying87 rfl _ _ rfl rfl (cs:=((js.take i).filter fun j=>Xf ⟨sk,x,g,s,step,y,b⟩ j.1).map jc) (l.o.ext hA) (ad:=⟨wr.heap.size+1,0,X⟩) (m:=1) (c:=1) rfl [(#[.string nm,Z va vn vc,O Y d,O Y de,O Y gx,O Y gz,O Y wy,O Y ax,O Y az,O S f,O Y k,O Y xl,O Y xh,O Y zl,O Y zh]:Array M).toList] rfl sM (fun j u hj=>by have:=Mo (wr.alloc (N #[.string nm,Z va vn vc,O Y d,O Y de,O Y gx,O Y gz,O Y wy,O Y ax,O Y az,O S f,O Y k,O Y xl,O Y xh,O Y zl,O Y zh] 113)) #[.string nm,Z va vn vc,O Y d,O Y de,O Y gx,O Y gz,O Y wy,O Y ax,O Y az,O S f,O Y k,O Y xl,O Y xh,O Y zl,O Y zh] 113 j u hj;rw[wZ]at this;exact this) (by simp[Value.oneCell']) (by have h7:=List.length_filter_le (fun j:JS×M=>Xf ⟨sk,x,g,s,step,y,b⟩ j.1) (js.take i);rw[List.length_take]at h7;rw[lL];omega) (by have:=hA.size;omega) ?_;intro v' w9 ae ac aZ;obtain⟨a9,n9,c9,rfl⟩:=ae.i;refine kO hK (fun _=>Da.grown r ac (fun q hq e=>?_)) (fun r=>?_)
     ·have h9:=af.o _ e.symm;simp at hq;rcases hq with rfl|rfl|rfl|rfl|rfl|rfl|rfl|rfl|rfl|rfl|rfl|rfl|rfl|rfl|rfl|rfl|rfl<;>(dsimp only at h9;omega)
     clear hK K;have r:=r rfl;refine sN 8 ?_
     (iterate 2 refine uo ?_);refine oN ?_;have an:=Gh ac (hA.e ah.o) (fun e=>by have:=(af.o _ e.symm).1;omega);have n1:=Aa an 9 (Z wa wn wc);have nf:=Za an;refine Sj (i:=10) fun K hK=>?_;go_simp;refine kO hK (fun h=>nomatch h) (fun r=>?_);clear hK K;refine Yh kM ?_ _;unfold NQ
     gi_wp2
     refine Handed.intro (n5-(i+1)) (by have:=Hn.o;omega) (hJ _ _ _ ⟨?rel,rfl,rfl,rfl,rfl,rfl,rfl⟩)
     case rel =>
      refine⟨i+1,Z a9 n9 c9,by have:=Hn.o;omega,by show (_:M)=_;go_num,by rw[Hn.o],Bk (Ck al.o ((Below.mono hA ay).trans (Yg (base:=w5.heap.size) ac (nT ay hA.size) (fun k hk=>(af.o k hk).1)))) 9 _,Sk an 9 _,?_⟩;rw[aC.o,if_pos trivial,List.map_append];exact ae.setOther (fun e=>by have:=(ae.lt _ e).1;dsimp only at this;omega) _
  ·obtain rfl:i=n5:=oM;have e:js.take i=js:=lT (by rw[Hn.o];exact nE _);rw[e]at L;have l:=za L;clear L ab aw au av e
   gi_wp2
   exact HQ.o _ _ _ ⟨rfl,rfl,rfl,rfl,rfl,rfl⟩ al.o ah.o l.o
