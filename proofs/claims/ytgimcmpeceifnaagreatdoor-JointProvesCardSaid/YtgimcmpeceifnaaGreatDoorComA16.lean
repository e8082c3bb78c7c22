import Derived.Test.YtgimcmpeceifnaaGreatDoorComA15
set_option maxRecDepth 1000000
set_option maxHeartbeats 16000000
set_option linter.all false
open Option renaming none->O,some->V
open Go.Value renaming int->Y,slice->Z,bool->I
open Go.IntKind renaming i64->X
open Go renaming Value->J,World->M
namespace Go.Proofs.YtgimcmpeceifnaaGreatDoor.Cop
section
open Go.RowKit Go.Shelf
attribute [local go_sem] Oper.semAt_some
def Ry w c d s a(f:Ia w c s.over)(g:Ia w d s.under)(b:Qg s)(e:a=0):Calls Tryz.prog 184 #[pj s c d,Y X a] w (ll w (Wc s a)):=by
 cases hno:Xc s a with
 | true=>exact pM w c d s a f g b (by subst e;unfold Bd;omega) hno
 | false=>exact QR w c d s a f g b (by subst e;unfold Bd;omega) hno (by subst e;exact ON hno)
structure Be where
 num:Int
 fx:Rat
 fz:Rat
 tx:Rat
 tz:Rat
 d1:Int×Int
 d2:Int×Int
def Pg(p:Pl)(t:LP)(b a:Int):Option Be:=
 if (Ld (Ga p) t).lo<(Ld (Ga p) t).hi then
  (Wc (Ld (Ga p) t) a).map fun o=>⟨b,o.1,Rh (Ga p) o.1,o.2,Rh (Ga p) o.2,Zd t o.1 o.2,Zd t o.2 o.2⟩
 else O
def Lk(w:M)(c:List J)(b:Be):Prop:=
 ∃f t:List J,c=Y X b.num::(f++(t++[Y X b.d1.1,Y X b.d1.2,Y X b.d2.1,Y X b.d2.2]))/\Ul w (.agg f.toArray) b.fx b.fz/\Ul w (.agg t.toArray) b.tx b.tz
def Lk.ext{w w' c b}(h:Lk w c b)(k:Ba w w'):Lk w' c b:=by obtain⟨f,t,a,d,e⟩:=h;exact⟨f,t,a,d.ext k,e.ext k⟩
def Zk:Array J:=#[Y X 0,Z O 0 0,I false,Z O 0 0,Z O 0 0,I false,Z O 0 0,Z O 0 0,I false,Z O 0 0,Z O 0 0,I false,Z O 0 0,Y X 0,Y X 0,Y X 0,Y X 0]
def pg(w:M)(o:Option Be)(e:Ending)(w':M):Prop:=
 Ba w w'/\((o=O/\e=.returned (.tuple #[.agg Zk,I false]))\/(∃b c,o=V b/\e=.returned (.tuple #[.agg c.toArray,I true])/\Lk w' c b))
def Cy{w W b}(h:Ba w W)(j:w.heap.size<=b) k l m n o p q r u8 s a c d e f g i:Ba w (((((((((((((((((W.setCell ⟨b,0,O⟩ k).setCell ⟨b,1,O⟩ l).setCell ⟨b,2,O⟩ m).setCell ⟨b,3,O⟩ n).setCell ⟨b,4,O⟩ o).setCell ⟨b,5,O⟩ p).setCell ⟨b,6,O⟩ q).setCell ⟨b,7,O⟩ r).setCell ⟨b,8,O⟩ u8).setCell ⟨b,9,O⟩ s).setCell ⟨b,10,O⟩ a).setCell ⟨b,11,O⟩ c).setCell ⟨b,12,O⟩ d).setCell ⟨b,13,O⟩ e).setCell ⟨b,14,O⟩ f).setCell ⟨b,15,O⟩ g).setCell ⟨b,16,O⟩ i):=by
 repeat(refine Ba.set ?_ j _)
 exact h
def qF{W T b}(n0:ud T W b) j k l m n o p q u8 r a c d e f g i:Ja T W (((((((((((((((((W.setCell ⟨b,0,O⟩ j).setCell ⟨b,1,O⟩ k).setCell ⟨b,2,O⟩ l).setCell ⟨b,3,O⟩ m).setCell ⟨b,4,O⟩ n).setCell ⟨b,5,O⟩ o).setCell ⟨b,6,O⟩ p).setCell ⟨b,7,O⟩ q).setCell ⟨b,8,O⟩ u8).setCell ⟨b,9,O⟩ r).setCell ⟨b,10,O⟩ a).setCell ⟨b,11,O⟩ c).setCell ⟨b,12,O⟩ d).setCell ⟨b,13,O⟩ e).setCell ⟨b,14,O⟩ f).setCell ⟨b,15,O⟩ g).setCell ⟨b,16,O⟩ i):=by repeat(first|with_reducible exact Ja.refl _ _|(with_reducible refine Ja.y ?_ ?_ _)|with_reducible exact n0|with_reducible refine ud.set ?_ _ _)
def Da.set17{L W b}(h:Da L W)(a:∀q∈L,b≠q.1.block) k l m n o r s t u8 u c d e f g i j:Da L (((((((((((((((((W.setCell ⟨b,0,O⟩ k).setCell ⟨b,1,O⟩ l).setCell ⟨b,2,O⟩ m).setCell ⟨b,3,O⟩ n).setCell ⟨b,4,O⟩ o).setCell ⟨b,5,O⟩ r).setCell ⟨b,6,O⟩ s).setCell ⟨b,7,O⟩ t).setCell ⟨b,8,O⟩ u8).setCell ⟨b,9,O⟩ u).setCell ⟨b,10,O⟩ c).setCell ⟨b,11,O⟩ d).setCell ⟨b,12,O⟩ e).setCell ⟨b,13,O⟩ f).setCell ⟨b,14,O⟩ g).setCell ⟨b,15,O⟩ i).setCell ⟨b,16,O⟩ j):=
 (Da.set (p:=⟨b,16,O⟩) (Da.set (p:=⟨b,15,O⟩) (Da.set (p:=⟨b,14,O⟩) (Da.set (p:=⟨b,13,O⟩) (Da.set (p:=⟨b,12,O⟩) (Da.set (p:=⟨b,11,O⟩) (Da.set (p:=⟨b,10,O⟩) (Da.set (p:=⟨b,9,O⟩) (Da.set (p:=⟨b,8,O⟩) (Da.set (p:=⟨b,7,O⟩) (Da.set (p:=⟨b,6,O⟩) (Da.set (p:=⟨b,5,O⟩) (Da.set (p:=⟨b,4,O⟩) (Da.set (p:=⟨b,3,O⟩) (Da.set (p:=⟨b,2,O⟩) (Da.set (p:=⟨b,1,O⟩) (Da.set (p:=⟨b,0,O⟩) h a _) a _) a _) a _) a _) a _) a _) a _) a _) a _) a _) a _) a _) a _) a _) a _) a _)
def Ul.keep{w w' v x z}(h:Ul w v x z)(k:Ja 2 w w'):Ul w' v x z:=by obtain⟨a,m,c,s,d,p,f,b,n,l,t,e,q,o,g,i,j⟩:=h;exact⟨a,m,c,s,d,p,f,b,n,l,t,e,q,o,g,i.keep k,j.keep k⟩
def pO w vg vs ps(a:Nat) p m(hg:∃a n c,vg=Z a n c)(e:od w vs ps)(g:ps[a]?=V p):Calls Tryz.prog 138 #[.agg #[vg,vs],Y X a,Y X a,Y X m] w (pg w O):=by
 obtain⟨ga,gn,gc,rfl⟩:=hg;obtain⟨sa,n,sc,rfl⟩:=Ma e;have hl:=e.len;have i:=e.le;obtain⟨b,o,s,vl,vu,rfl,hb,R,W,d3,d⟩:=e.at' g;obtain⟨q,t,r,rfl⟩:=Ma R;obtain⟨j,l,k,rfl⟩:=Ma W;obtain⟨u,y,x,rfl⟩:=Ma d3;have hi:=(lS.1 g).1;have p1:(0:Int)<=(a:Int):=oM;have p2:(a:Int)<(n:Int):=oM;have p3:a<n:=oM;have f:=d 0 (.string p.name) rfl;have aa:=d 1 (Z q t r) rfl;have ab:=d 2 (Y X p.depth) rfl;have ac:=d 3 (Y X p.density) rfl;have ad:=d 4 (Y X p.gx) rfl;have ae:=d 5 (Y X p.gz) rfl;have af:=d 6 (Y X p.way) rfl;have ag:=d 7 (Y X p.ax) rfl;have ah:=d 8 (Y X p.az) rfl;have ai:=d 9 (Y .u8 p.skin) rfl;have z:=d 10 (Z j l k) rfl;have K:=d 11 (Z u y x) rfl;simp only[Nat.add_zero]at f;clear e g d R W d3 hl i hi;go_in;go_wp2;refine jd [] trivial fun aj=>?_;refine sN 0 ?_
 iterate 4 refine Db ?_
 iterate 14 refine Ze ?_
 refine Db ?_;refine oN ?_;refine Pb ?_;go_wp2;refine bR (v:=.tuple #[.agg Zk,I false]) (by unfold Zk;simp[results,Tryz.results138,go_sem]) rfl ?_;exact⟨eA,.inl ⟨rfl,rfl⟩⟩
def Lx{q s b c}{m:Nat}{u}(h:(Dd q s)[m]?=V u):(tf q s b c)[m]?=V u:=by
 have a:=(Array.getElem?_eq_some_iff.1 h).1;unfold Dd at h a;unfold tf
 match m,a with
 | 0,_|1,_|2,_|3,_|4,_|5,_|6,_|7,_|8,_|9,_=>simpa using h
 | m+10,a=>exact absurd a (by simp only[List.size_toArray,List.length_cons,List.length_nil];omega)
def RA(w:M)(c d:J)(a:Array J)(b:J)(W:M):Prop:=
 b=I false/\Ba w W/\W.heap[w.heap.size]?=V (.cells #[c,d] 149 (0,0))/\W.heap[w.heap.size+1]?=V (.cells Zk 185 (0,0))/\W.heap[w.heap.size+1+1]?=V (.cells a 202 (0,0))
def Kl{W:M}{b}(h:W.heap[b]?=V (.cells Zk 185 (0,0))):W.cell? ⟨b,0,O⟩=V (Y X 0)/\W.cell? ⟨b,1,O⟩=V (Z O 0 0)/\W.cell? ⟨b,2,O⟩=V (I false)/\W.cell? ⟨b,3,O⟩=V (Z O 0 0)/\W.cell? ⟨b,4,O⟩=V (Z O 0 0)/\W.cell? ⟨b,5,O⟩=V (I false)/\W.cell? ⟨b,6,O⟩=V (Z O 0 0)/\W.cell? ⟨b,7,O⟩=V (Z O 0 0)/\W.cell? ⟨b,8,O⟩=V (I false)/\W.cell? ⟨b,9,O⟩=V (Z O 0 0)/\W.cell? ⟨b,10,O⟩=V (Z O 0 0)/\W.cell? ⟨b,11,O⟩=V (I false)/\W.cell? ⟨b,12,O⟩=V (Z O 0 0)/\W.cell? ⟨b,13,O⟩=V (Y X 0)/\W.cell? ⟨b,14,O⟩=V (Y X 0)/\W.cell? ⟨b,15,O⟩=V (Y X 0)/\W.cell? ⟨b,16,O⟩=V (Y X 0):=
 ⟨Lb h rfl,Lb h rfl,Lb h rfl,Lb h rfl,Lb h rfl,Lb h rfl,Lb h rfl,Lb h rfl,Lb h rfl,Lb h rfl,Lb h rfl,Lb h rfl,Lb h rfl,Lb h rfl,Lb h rfl,Lb h rfl,Lb h rfl⟩
def oQ w vg vs ps(a:Nat) p b am(hg:∃a n c,vg=Z a n c)(R:od w vs ps)(ha:ps[a]?=V p)(g:Nat)(af:b=(g:Int)) q(hq:ps[g]?=V q)(ab:Me p q=false)(ai:(a:Int)≠b):Calls Tryz.prog 138 #[.agg #[vg,vs],Y X a,Y X b,Y X am] w (pg w O):=by
 subst af;obtain⟨ga,gn,gc,rfl⟩:=hg;obtain⟨sa,n,sc,rfl⟩:=Ma R;have hl:=R.len;have ah:=R.le;obtain⟨j,o,s,vl,vu,rfl,aQ,d1,d2,d3,k⟩:=R.at' ha;obtain⟨t,z,x,rfl⟩:=Ma d1;obtain⟨aj,al,ak,rfl⟩:=Ma d2;obtain⟨ay,aB,aA,rfl⟩:=Ma d3;have hi:=(lS.1 ha).1;have p1:(0:Int)<=(a:Int):=oM;have p2:(a:Int)<(n:Int):=oM;have p3:a<n:=oM;have ac:=k 0 (.string p.name) rfl;have aG:=k 1 (Z t z x) rfl;have aH:=k 2 (Y X p.depth) rfl;have aI:=k 3 (Y X p.density) rfl;have aJ:=k 4 (Y X p.gx) rfl;have aK:=k 5 (Y X p.gz) rfl;have aL:=k 6 (Y X p.way) rfl;have aM:=k 7 (Y X p.ax) rfl;have aO:=k 8 (Y X p.az) rfl;have aP:=k 9 (Y .u8 p.skin) rfl;have aC:=k 10 (Z aj al ak) rfl;have aD:=k 11 (Z ay aB aA) rfl;simp only[Nat.add_zero]at ac;have aU:((a:Int)==(g:Int))=false:=by simpa using ai
 obtain⟨b1,o1,s',a5,a6,e9,aR,aa,ad,ae,d⟩:=R.at' hq;cases e9;have aT:(0:Int)<=(g:Int):=oM;have aS:decide ((0:Int)<=(g:Int))=true:=sM;have aE:j<w.heap.size+1:=oM;have aF:j<w.heap.size+1+1:=oM;obtain⟨u,K,y,rfl⟩:=Ma aa;have ag:=(lS.1 hq).1;have r2:(g:Int)<(n:Int):=oM;have r4:g<n:=oM;have an:=d 0 (.string q.name) rfl;have aW:=d 1 (Z u K y) rfl;have aX:=d 2 (Y X q.depth) rfl;have aY:=d 3 (Y X q.density) rfl;have aZ:=d 4 (Y X q.gx) rfl;have a0:=d 5 (Y X q.gz) rfl;have a1:=d 6 (Y X q.way) rfl;have a2:=d 7 (Y X q.ax) rfl;have a3:=d 8 (Y X q.az) rfl;have a4:=d 9 (Y .u8 q.skin) rfl;simp only[Nat.add_zero]at an;have l:=za (fun(W:M)=>Ps W p q (Z t z x) (Z u K y) ⟨_,_,_,rfl⟩ ⟨_,_,_,rfl⟩);rw[ab]at l;unfold Dd at l;clear R ha k d hq ab aa ad ae ag d1 d2 d3 hl ah hi;go_in;go_wp2;refine jd [(⟨w.heap.size+1+1,0,O⟩,.string p.name),(⟨w.heap.size+1+1,1,O⟩,Z t z x),(⟨w.heap.size+1+1,2,O⟩,Y X p.depth),(⟨w.heap.size+1+1,3,O⟩,Y X p.density),(⟨w.heap.size+1+1,4,O⟩,Y X p.gx),(⟨w.heap.size+1+1,5,O⟩,Y X p.gz),(⟨w.heap.size+1+1,6,O⟩,Y X p.way),(⟨w.heap.size+1+1,7,O⟩,Y X p.ax),(⟨w.heap.size+1+1,8,O⟩,Y X p.az),(⟨w.heap.size+1+1,9,O⟩,Y .u8 p.skin),(⟨w.heap.size,1,O⟩,Z (V ⟨j,o,O⟩) n sc),(⟨j,o+g*12,O⟩,.string q.name),(⟨j,o+g*12+1,O⟩,Z u K y),(⟨j,o+g*12+2,O⟩,Y X q.depth),(⟨j,o+g*12+3,O⟩,Y X q.density),(⟨j,o+g*12+4,O⟩,Y X q.gx),(⟨j,o+g*12+5,O⟩,Y X q.gz),(⟨j,o+g*12+6,O⟩,Y X q.way),(⟨j,o+g*12+7,O⟩,Y X q.ax),(⟨j,o+g*12+8,O⟩,Y X q.az),(⟨j,o+g*12+9,O⟩,Y .u8 q.skin)] cA fun m=>?_;refine sN 0 ?_
 iterate 15 refine Db ?_
 refine oN ?_;refine Ac (i:=15) (l.o _) ?_;rintro e w3 ⟨rfl,r⟩;refine⟨_,rfl,(cE m r),fun m=>?_⟩;refine sN 16 ?_
 iterate 3 refine Db ?_
 refine oN ?_;refine Pb ?_;have X3:Ba w w3:=((((eR w).alloc _).alloc _).alloc _).drew.trans r;have f:w3.heap[w.heap.size+1]?=V (.cells Zk 185 (0,0)):=r.e ((((eR _).alloc _).drew).e (mc _ _ _ sM));have aV:∀i,w3.frozen? ⟨w.heap.size+1,i,O⟩=false:=fun i=>Za f i;have u0:=Aa f 0 (Y X 0);have u1:=Aa f 1 (Z O 0 0);have u2:=Aa f 2 (I false);have u3:=Aa f 3 (Z O 0 0);have u4:=Aa f 4 (Z O 0 0);have u5:=Aa f 5 (I false);have u6:=Aa f 6 (Z O 0 0);have u7:=Aa f 7 (Z O 0 0);have u8:=Aa f 8 (I false);have u9:=Aa f 9 (Z O 0 0);have ao:=Aa f 10 (Z O 0 0);have ap:=Aa f 11 (I false);have aq:=Aa f 12 (Z O 0 0);have ar:=Aa f 13 (Y X 0);have au:=Aa f 14 (Y X 0);have av:=Aa f 15 (Y X 0);have aw:=Aa f 16 (Y X 0);clear m;have a7:=Ya f;go_wp2;refine bR (v:=.tuple #[.agg Zk,I false]) (by unfold Zk;simp[results,Tryz.results138,go_sem,u0,u1,u2,u3,u4,u5,u6,u7,u8,u9,ao,ap,aq,ar,au,av,aw]) rfl ?_;exact⟨eA,.inl ⟨rfl,rfl⟩⟩
end
section
open Go.RowKit Go.Shelf Go.Sort Go.Lib
def kT(zs:List Int)(h:zs.Pairwise (·<=·)):(compact zs).Pairwise (·<·):=by
 have d:∀j,(hj:j<zs.length)->zs.toArray[j]! = zs[j]:=fun j hj=>by rw[getElem!_pos _ _ (by simpa using hj)];simp
 unfold compact compactUpTo;rw[List.pairwise_map];have g:((List.range zs.length).filter (keeps zs.toArray)).Pairwise (·<·):=List.Pairwise.filter _ List.pairwise_lt_range;refine List.Pairwise.imp_of_mem (fun {i j} l hj k=>?_) g;have c:=List.mem_filter.1 hj;have a:=List.mem_range.1 c.1;have b:=c.2;unfold keeps at b;rw[decide_eq_true_eq]at b;rw[d j a,d (j-1) oM]at b;rw[d i oM,d j a];have f:=List.pairwise_iff_getElem.1 h;have m:zs[i]<=zs[j-1]:=by
  by_cases e:i=j-1
  ·subst e;exact Int.le_refl _
  ·exact f i (j-1) oM oM oM
 have n:=f (j-1) j oM a oM;rcases b with b|b
 ·omega
 ·omega
def nN zs:(og zs).Pairwise (·<=·):=by unfold og;have:=List.pairwise_mergeSort (le:=fun x y:Int=>decide (x<=y)) (fun a b c d e=>by simp at *;omega) (fun a b=>by simp;omega) zs;exact this.imp fun h=>by simpa using h
def zR s:(Xd s).Pairwise (·<·):=kT _ (nN _)
def Fi{s z}:z∈Xd s ↔ (z=s.lo\/z=s.hi\/(s.lo<z/\z<s.hi/\∃q∈s.over++s.under,q.1=z)):=by
 constructor
 ·intro h;have a:=Wh.1 (BG h);rcases List.mem_cons.1 a with a|a
  ·exact .inl a
  rcases List.mem_cons.1 a with a|a
  ·exact .inr (.inl a)
  ·unfold Ag at a;obtain⟨c,b⟩:=List.mem_filter.1 a;obtain⟨q,d,rfl⟩:=List.mem_map.1 c;unfold Qr at b;simp at b;exact .inr (.inr ⟨b.1,b.2,q,d,rfl⟩)
 ·intro h;obtain⟨y,f,e⟩:=List.mem_map.1 (UL h);have:y=z:=by exact_mod_cast e
  rwa [<-this]
section
variable {L U:LP} (rL:ie L) (rU:ie U) (nL:L≠[]) (nU:U≠[])
include rL rU nL nU
