import Derived.Test.YtgimcmpeceifnaaGreatDoorColA16
set_option maxRecDepth 1000000
set_option maxHeartbeats 16000000
set_option linter.all false
open Option renaming none->O,some->V
open Go.Value renaming int->Y,slice->Z,bool->I
open Go.IntKind renaming i64->X
open Go renaming Value->J,World->M
namespace Go.Proofs.YtgimcmpeceifnaaGreatDoor.Cop
section
open Go.RowKit Go.Shelf
attribute [local go_sem] Oper.semAt_some
def qy(w:M)(c d:J)(s:Sp)(a:Int)(e:Ja w c s.over)(f:Ja w d s.under)(b:Kg s)(g:Bd 104000 a):Calls Tryz.prog 184 #[qj s c d,Y X a] w (Uk w (Wc s a)):=by
 cases hno:Cd s a with
 | true=>exact GM w c d s a e f b g hno
 | false=>exact DQ w c d s a e f b g hno
structure Be where
 num:Int
 fx:Rat
 fz:Rat
 tx:Rat
 tz:Rat
 d1:Int×Int
 d2:Int×Int
def Ig(p:Pl)(t:LP)(b a:Int):Option Be:=
 if (Ld (Ga p) t).lo<(Ld (Ga p) t).hi then
  (Wc (Ld (Ga p) t) a).map fun o=>⟨b,o.1,Lh (Ga p) o.1,o.2,Lh (Ga p) o.2,Xd t o.1 o.2,Xd t o.2 o.2⟩
 else O
def Dk(w:M)(c:List J)(b:Be):Prop:=
 ∃f t:List J,c=Y X b.num::(f++(t++[Y X b.d1.1,Y X b.d1.2,Y X b.d2.1,Y X b.d2.2]))/\Ll w (.agg f.toArray) b.fx b.fz/\Ll w (.agg t.toArray) b.tx b.tz
def Dk.ext{w w':M}{c:List J}{b:Be}(h:Dk w c b)(k:Ba w w'):Dk w' c b:=by obtain⟨f,t,a,d,e⟩:=h;exact⟨f,t,a,d.ext k,e.ext k⟩
def Tk:Array J:=#[Y X 0,Z O 0 0,I false,Z O 0 0,Z O 0 0,I false,Z O 0 0,Z O 0 0,I false,Z O 0 0,Z O 0 0,I false,Z O 0 0,Y X 0,Y X 0,Y X 0,Y X 0]
def Yf(w:M)(o:Option Be)(e:Ending)(w':M):Prop:=
 Ba w w'/\((o=O/\e=.returned (.tuple #[.agg Tk,I false]))\/(∃b c,o=V b/\e=.returned (.tuple #[.agg c.toArray,I true])/\Dk w' c b))
def yy{w W:M}{b:Nat}(h:Ba w W)(j:w.heap.size<=b)(k l m n o p q r u8 s a c d e f g i:J):Ba w (((((((((((((((((W.setCell ⟨b,0,O⟩ k).setCell ⟨b,1,O⟩ l).setCell ⟨b,2,O⟩ m).setCell ⟨b,3,O⟩ n).setCell ⟨b,4,O⟩ o).setCell ⟨b,5,O⟩ p).setCell ⟨b,6,O⟩ q).setCell ⟨b,7,O⟩ r).setCell ⟨b,8,O⟩ u8).setCell ⟨b,9,O⟩ s).setCell ⟨b,10,O⟩ a).setCell ⟨b,11,O⟩ c).setCell ⟨b,12,O⟩ d).setCell ⟨b,13,O⟩ e).setCell ⟨b,14,O⟩ f).setCell ⟨b,15,O⟩ g).setCell ⟨b,16,O⟩ i):=by
 repeat(refine Ba.set ?_ j _)
 exact h
def WE{W:M}{T:TypeId}{b:Nat}(n0:sd T W b)(j k l m n o p q u8 r a c d e f g i:J):Ka T W (((((((((((((((((W.setCell ⟨b,0,O⟩ j).setCell ⟨b,1,O⟩ k).setCell ⟨b,2,O⟩ l).setCell ⟨b,3,O⟩ m).setCell ⟨b,4,O⟩ n).setCell ⟨b,5,O⟩ o).setCell ⟨b,6,O⟩ p).setCell ⟨b,7,O⟩ q).setCell ⟨b,8,O⟩ u8).setCell ⟨b,9,O⟩ r).setCell ⟨b,10,O⟩ a).setCell ⟨b,11,O⟩ c).setCell ⟨b,12,O⟩ d).setCell ⟨b,13,O⟩ e).setCell ⟨b,14,O⟩ f).setCell ⟨b,15,O⟩ g).setCell ⟨b,16,O⟩ i):=by repeat(first|with_reducible exact Ka.refl _ _|(with_reducible refine Ka.y ?_ ?_ _)|with_reducible exact n0|with_reducible refine sd.set ?_ _ _)
def Ea.set17{L:List (Addr×J)}{W:M}{b:Nat}(h:Ea L W)(a:∀q∈L,b≠q.1.block)(k l m n o r s t u8 u c d e f g i j:J):Ea L (((((((((((((((((W.setCell ⟨b,0,O⟩ k).setCell ⟨b,1,O⟩ l).setCell ⟨b,2,O⟩ m).setCell ⟨b,3,O⟩ n).setCell ⟨b,4,O⟩ o).setCell ⟨b,5,O⟩ r).setCell ⟨b,6,O⟩ s).setCell ⟨b,7,O⟩ t).setCell ⟨b,8,O⟩ u8).setCell ⟨b,9,O⟩ u).setCell ⟨b,10,O⟩ c).setCell ⟨b,11,O⟩ d).setCell ⟨b,12,O⟩ e).setCell ⟨b,13,O⟩ f).setCell ⟨b,14,O⟩ g).setCell ⟨b,15,O⟩ i).setCell ⟨b,16,O⟩ j):=
 (Ea.set (p:=⟨b,16,O⟩) (Ea.set (p:=⟨b,15,O⟩) (Ea.set (p:=⟨b,14,O⟩) (Ea.set (p:=⟨b,13,O⟩) (Ea.set (p:=⟨b,12,O⟩) (Ea.set (p:=⟨b,11,O⟩) (Ea.set (p:=⟨b,10,O⟩) (Ea.set (p:=⟨b,9,O⟩) (Ea.set (p:=⟨b,8,O⟩) (Ea.set (p:=⟨b,7,O⟩) (Ea.set (p:=⟨b,6,O⟩) (Ea.set (p:=⟨b,5,O⟩) (Ea.set (p:=⟨b,4,O⟩) (Ea.set (p:=⟨b,3,O⟩) (Ea.set (p:=⟨b,2,O⟩) (Ea.set (p:=⟨b,1,O⟩) (Ea.set (p:=⟨b,0,O⟩) h a _) a _) a _) a _) a _) a _) a _) a _) a _) a _) a _) a _) a _) a _) a _) a _) a _)
def Ll.keep{w w':M}{v:J}{x z:Rat}(h:Ll w v x z)(k:Ka 2 w w'):Ll w' v x z:=by obtain⟨a,m,c,s,d,p,f,b,n,l,t,e,q,o,g,i,j⟩:=h;exact⟨a,m,c,s,d,p,f,b,n,l,t,e,q,o,g,i.keep k,j.keep k⟩
def iO(w:M)(vg vs:J)(ps:List Pl)(a:Nat)(p:Pl)(m:Int)(hg:∃a n c,vg=Z a n c)(e:ld w vs ps)(g:ps[a]?=V p):Calls Tryz.prog 138 #[.agg #[vg,vs],Y X a,Y X a,Y X m] w (Yf w O):=by
 obtain⟨ga,gn,gc,rfl⟩:=hg;obtain⟨sa,n,sc,rfl⟩:=Ma e;have hl:=e.len;have i:=e.le;obtain⟨b,o,s,vl,vu,rfl,hb,R,W,d3,d⟩:=e.at' g;obtain⟨q,t,r,rfl⟩:=Ma R;obtain⟨j,l,k,rfl⟩:=Ma W;obtain⟨u,y,x,rfl⟩:=Ma d3;have hi:=(lS.1 g).1;have p1:(0:Int)<=(a:Int):=oM;have p2:(a:Int)<(n:Int):=oM;have p3:a<n:=oM;have f:=d 0 (.string p.name) rfl;have aa:=d 1 (Z q t r) rfl;have ab:=d 2 (Y X p.depth) rfl;have ac:=d 3 (Y X p.density) rfl;have ad:=d 4 (Y X p.gx) rfl;have ae:=d 5 (Y X p.gz) rfl;have af:=d 6 (Y X p.way) rfl;have ag:=d 7 (Y X p.ax) rfl;have ah:=d 8 (Y X p.az) rfl;have ai:=d 9 (Y .u8 p.skin) rfl;have z:=d 10 (Z j l k) rfl;have K:=d 11 (Z u y x) rfl;simp only[Nat.add_zero]at f;clear e g d R W d3 hl i hi;go_in;go_wp2;refine od [] trivial fun aj=>?_;refine sN 0 ?_
 iterate 4 refine ub ?_
 iterate 14 refine Te ?_
 refine ub ?_;refine oN ?_;refine Tb ?_;go_wp2;refine bR (v:=.tuple #[.agg Tk,I false]) (by unfold Tk;simp[results,Tryz.results138,go_sem]) rfl ?_;exact⟨eA,.inl ⟨rfl,rfl⟩⟩
end
section
open Go.RowKit Go.Shelf Go.Sort Go.Lib
def sT(zs:List Int)(h:zs.Pairwise (·<=·)):(compact zs).Pairwise (·<·):=by
 have d:∀j,(hj:j<zs.length)->zs.toArray[j]! = zs[j]:=fun j hj=>by rw[getElem!_pos _ _ (by simpa using hj)];simp
 unfold compact compactUpTo;rw[List.pairwise_map];have g:((List.range zs.length).filter (keeps zs.toArray)).Pairwise (·<·):=List.Pairwise.filter _ List.pairwise_lt_range;refine List.Pairwise.imp_of_mem (fun {i j} l hj k=>?_) g;have c:=List.mem_filter.1 hj;have a:=List.mem_range.1 c.1;have b:=c.2;unfold keeps at b;rw[decide_eq_true_eq]at b;rw[d j a,d (j-1) oM]at b;rw[d i oM,d j a];have f:=List.pairwise_iff_getElem.1 h;have m:zs[i]<=zs[j-1]:=by
  by_cases e:i=j-1
  ·subst e;exact Int.le_refl _
  ·exact f i (j-1) oM oM oM
 have n:=f (j-1) j oM a oM;rcases b with b|b
 ·omega
 ·omega
def NL(zs:List Int):(Xf zs).Pairwise (·<=·):=by unfold Xf;have:=List.pairwise_mergeSort (le:=fun x y:Int=>decide (x<=y)) (fun a b c d e=>by simp at *;omega) (fun a b=>by simp;omega) zs;exact this.imp fun h=>by simpa using h
def rQ(s:Sp):(Vd s).Pairwise (·<·):=sT _ (NL _)
def Fi{s:Sp}{z:Int}:z∈Vd s ↔ (z=s.lo\/z=s.hi\/(s.lo<z/\z<s.hi/\∃q∈s.over++s.under,q.1=z)):=by
 constructor
 ·intro h;have a:=Sh.1 (tG h);rcases List.mem_cons.1 a with a|a
  ·exact .inl a
  rcases List.mem_cons.1 a with a|a
  ·exact .inr (.inl a)
  ·unfold mg at a;obtain⟨c,b⟩:=List.mem_filter.1 a;obtain⟨q,d,rfl⟩:=List.mem_map.1 c;unfold Cr at b;simp at b;exact .inr (.inr ⟨b.1,b.2,q,d,rfl⟩)
 ·intro h;obtain⟨y,f,e⟩:=List.mem_map.1 (vM h);have:y=z:=by exact_mod_cast e
  rwa [<-this]
section
variable {L U:LP} (rL:Zd L) (rU:Zd U) (nL:L≠[]) (nU:U≠[])
include rL rU nL nU
end
end
section
open Go.RowKit Go.Shelf
attribute [local go_sem] Oper.semAt_some
def Yw{q:Pl}{s b c:J}{m:Nat}{u:J}(h:(Dd q s)[m]?=V u):(Ye q s b c)[m]?=V u:=by
 have a:=(Array.getElem?_eq_some_iff.1 h).1;unfold Dd at h a;unfold Ye
 match m,a with
 | 0,_|1,_|2,_|3,_|4,_|5,_|6,_|7,_|8,_|9,_=>simpa using h
 | m+10,a=>exact absurd a (by simp only[List.size_toArray,List.length_cons,List.length_nil];omega)
def EA(w:M)(c d:J)(a:Array J)(b:J)(W:M):Prop:=
 b=I false/\Ba w W/\W.heap[w.heap.size]?=V (.cells #[c,d] 149 (0,0))/\W.heap[w.heap.size+1]?=V (.cells Tk 185 (0,0))/\W.heap[w.heap.size+1+1]?=V (.cells a 202 (0,0))
def Dl{W:M}{b:Nat}(h:W.heap[b]?=V (.cells Tk 185 (0,0))):W.cell? ⟨b,0,O⟩=V (Y X 0)/\W.cell? ⟨b,1,O⟩=V (Z O 0 0)/\W.cell? ⟨b,2,O⟩=V (I false)/\W.cell? ⟨b,3,O⟩=V (Z O 0 0)/\W.cell? ⟨b,4,O⟩=V (Z O 0 0)/\W.cell? ⟨b,5,O⟩=V (I false)/\W.cell? ⟨b,6,O⟩=V (Z O 0 0)/\W.cell? ⟨b,7,O⟩=V (Z O 0 0)/\W.cell? ⟨b,8,O⟩=V (I false)/\W.cell? ⟨b,9,O⟩=V (Z O 0 0)/\W.cell? ⟨b,10,O⟩=V (Z O 0 0)/\W.cell? ⟨b,11,O⟩=V (I false)/\W.cell? ⟨b,12,O⟩=V (Z O 0 0)/\W.cell? ⟨b,13,O⟩=V (Y X 0)/\W.cell? ⟨b,14,O⟩=V (Y X 0)/\W.cell? ⟨b,15,O⟩=V (Y X 0)/\W.cell? ⟨b,16,O⟩=V (Y X 0):=
 ⟨Da h rfl,Da h rfl,Da h rfl,Da h rfl,Da h rfl,Da h rfl,Da h rfl,Da h rfl,Da h rfl,Da h rfl,Da h rfl,Da h rfl,Da h rfl,Da h rfl,Da h rfl,Da h rfl,Da h rfl⟩
def TQ(w:M)(vg vs:J)(ps:List Pl)(a:Nat)(p:Pl)(b am:Int)(hg:∃a n c,vg=Z a n c)(hs:ld w vs ps)(ha:ps[a]?=V p)(g:Nat)(af:b=(g:Int))(q:Pl)(hq:ps[g]?=V q)(ab:Le p q=false)(ai:(a:Int)≠b):Calls Tryz.prog 138 #[.agg #[vg,vs],Y X a,Y X b,Y X am] w (Yf w O):=by
 subst af;obtain⟨ga,gn,gc,rfl⟩:=hg;obtain⟨sa,n,sc,rfl⟩:=Ma hs;have hl:=hs.len;have ah:=hs.le;obtain⟨j,o,s,vl,vu,rfl,aQ,d1,d2,d3,k⟩:=hs.at' ha;obtain⟨t,K,y,rfl⟩:=Ma d1;obtain⟨aj,al,ak,rfl⟩:=Ma d2;obtain⟨ay,aB,aA,rfl⟩:=Ma d3;have hi:=(lS.1 ha).1;have p1:(0:Int)<=(a:Int):=oM;have p2:(a:Int)<(n:Int):=oM;have p3:a<n:=oM;have ac:=k 0 (.string p.name) rfl;have aG:=k 1 (Z t K y) rfl;have aH:=k 2 (Y X p.depth) rfl;have aI:=k 3 (Y X p.density) rfl;have aJ:=k 4 (Y X p.gx) rfl;have aK:=k 5 (Y X p.gz) rfl;have aL:=k 6 (Y X p.way) rfl;have aM:=k 7 (Y X p.ax) rfl;have aO:=k 8 (Y X p.az) rfl;have aP:=k 9 (Y .u8 p.skin) rfl;have aC:=k 10 (Z aj al ak) rfl;have aD:=k 11 (Z ay aB aA) rfl;simp only[Nat.add_zero]at ac;have aU:((a:Int)==(g:Int))=false:=by simpa using ai
 obtain⟨b1,o1,s',a5,a6,e9,aR,aa,ad,ae,d⟩:=hs.at' hq;cases e9;have aT:(0:Int)<=(g:Int):=oM;have aS:decide ((0:Int)<=(g:Int))=true:=sM;have aE:j<w.heap.size+1:=oM;have aF:j<w.heap.size+1+1:=oM;obtain⟨x,R,z,rfl⟩:=Ma aa;have ag:=(lS.1 hq).1;have r2:(g:Int)<(n:Int):=oM;have r4:g<n:=oM;have an:=d 0 (.string q.name) rfl;have aW:=d 1 (Z x R z) rfl;have aX:=d 2 (Y X q.depth) rfl;have aY:=d 3 (Y X q.density) rfl;have aZ:=d 4 (Y X q.gx) rfl;have a0:=d 5 (Y X q.gz) rfl;have a1:=d 6 (Y X q.way) rfl;have a2:=d 7 (Y X q.ax) rfl;have a3:=d 8 (Y X q.az) rfl;have a4:=d 9 (Y .u8 q.skin) rfl;simp only[Nat.add_zero]at an;have l:=Aa (fun(W:M)=>ns W p q (Z t K y) (Z x R z) ⟨_,_,_,rfl⟩ ⟨_,_,_,rfl⟩);rw[ab]at l;unfold Dd at l;clear hs ha k d hq ab aa ad ae ag d1 d2 d3 hl ah hi;go_in;go_wp2;refine od [(⟨w.heap.size+1+1,0,O⟩,.string p.name),(⟨w.heap.size+1+1,1,O⟩,Z t K y),(⟨w.heap.size+1+1,2,O⟩,Y X p.depth),(⟨w.heap.size+1+1,3,O⟩,Y X p.density),(⟨w.heap.size+1+1,4,O⟩,Y X p.gx),(⟨w.heap.size+1+1,5,O⟩,Y X p.gz),(⟨w.heap.size+1+1,6,O⟩,Y X p.way),(⟨w.heap.size+1+1,7,O⟩,Y X p.ax),(⟨w.heap.size+1+1,8,O⟩,Y X p.az),(⟨w.heap.size+1+1,9,O⟩,Y .u8 p.skin),(⟨w.heap.size,1,O⟩,Z (V ⟨j,o,O⟩) n sc),(⟨j,o+g*12,O⟩,.string q.name),(⟨j,o+g*12+1,O⟩,Z x R z),(⟨j,o+g*12+2,O⟩,Y X q.depth),(⟨j,o+g*12+3,O⟩,Y X q.density),(⟨j,o+g*12+4,O⟩,Y X q.gx),(⟨j,o+g*12+5,O⟩,Y X q.gz),(⟨j,o+g*12+6,O⟩,Y X q.way),(⟨j,o+g*12+7,O⟩,Y X q.ax),(⟨j,o+g*12+8,O⟩,Y X q.az),(⟨j,o+g*12+9,O⟩,Y .u8 q.skin)] cA fun m=>?_;refine sN 0 ?_
 iterate 15 refine ub ?_
 refine oN ?_;refine mc (i:=15) (l.o _) ?_;rintro e w3 ⟨rfl,r⟩;refine⟨_,rfl,(cE m r),fun m=>?_⟩;refine sN 16 ?_
 iterate 3 refine ub ?_
 refine oN ?_;refine Tb ?_;have X3:Ba w w3:=((((eR w).alloc _).alloc _).alloc _).drew.trans r;have f:w3.heap[w.heap.size+1]?=V (.cells Tk 185 (0,0)):=r.e ((((eR _).alloc _).drew).e (kc _ _ _ sM));have aV:∀i,w3.frozen? ⟨w.heap.size+1,i,O⟩=false:=fun i=>Za f i;have u0:=Da f (i:=0) (u:=Y X 0) rfl;have u1:=Da f (i:=1) (u:=Z O 0 0) rfl;have u2:=Da f (i:=2) (u:=I false) rfl;have u3:=Da f (i:=3) (u:=Z O 0 0) rfl;have u4:=Da f (i:=4) (u:=Z O 0 0) rfl;have u5:=Da f (i:=5) (u:=I false) rfl;have u6:=Da f (i:=6) (u:=Z O 0 0) rfl;have u7:=Da f (i:=7) (u:=Z O 0 0) rfl;have u8:=Da f (i:=8) (u:=I false) rfl;have u9:=Da f (i:=9) (u:=Z O 0 0) rfl;have ao:=Da f (i:=10) (u:=Z O 0 0) rfl;have ap:=Da f (i:=11) (u:=I false) rfl;have aq:=Da f (i:=12) (u:=Z O 0 0) rfl;have ar:=Da f (i:=13) (u:=Y X 0) rfl;have au:=Da f (i:=14) (u:=Y X 0) rfl;have av:=Da f (i:=15) (u:=Y X 0) rfl;have aw:=Da f (i:=16) (u:=Y X 0) rfl;clear m;have a7:=Ya f;go_wp2;refine bR (v:=.tuple #[.agg Tk,I false]) (by unfold Tk;simp[results,Tryz.results138,go_sem,u0,u1,u2,u3,u4,u5,u6,u7,u8,u9,ao,ap,aq,ar,au,av,aw]) rfl ?_;exact⟨eA,.inl ⟨rfl,rfl⟩⟩
