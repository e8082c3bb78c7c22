import Derived.Test.YtjnjpagegkcgfaaGreatDoorCoqA12
set_option maxRecDepth 1000000
set_option maxHeartbeats 16000000
set_option linter.all false
open Option renaming none->O,some->V
open Go.Value renaming int->Y,slice->Z,bool->I
open Go.IntKind renaming i64->X
open Go renaming Value->J,World->M
namespace Go.Proofs.YtjnjpagegkcgfaaGreatDoor.Cop
section
open Go.RowKit Go.Shelf
attribute [local go_sem] Oper.semAt_some
def Sw w c d s a(f:Fa w c s.over)(g:Fa w d s.under)(b:Rf s)(e:a=0):Calls Tryz.prog 143 #[ni s c d,Y X a] w (Mk w (ud s a)):=by
 cases hno:Lf s a with
 | true=>exact SK w c d s a f g b (by subst e;unfold Bd;omega) hno
 | false=>exact nP w c d s a f g b (by subst e;unfold Bd;omega) hno (by subst e;exact SJ hno)
structure Be where
 num:Int
 fx:Rat
 fz:Rat
 tx:Rat
 tz:Rat
 d1:Int×Int
 d2:Int×Int
def Hh(p:Pl)(t:LP)(b a:Int):Option Be:=
 if (Ac (Da p) t).lo<(Ac (Da p) t).hi then
  (ud (Ac (Da p) t) a).map fun o=>⟨b,o.1,kb (Da p) o.1,o.2,kb (Da p) o.2,Xd t o.1 o.2,Xd t o.2 o.2⟩
 else O
def uk(w:M)(c:List J)(b:Be):Prop:=
 ∃f t:List J,c=Y X b.num::(f++(t++[Y X b.d1.1,Y X b.d1.2,Y X b.d2.1,Y X b.d2.2]))/\Rk w (.agg f.toArray) b.fx b.fz/\Rk w (.agg t.toArray) b.tx b.tz
def uk.ext{w w' c b}(h:uk w c b)(k:Aa w w'):uk w' c b:=by obtain⟨f,t,a,d,e⟩:=h;exact⟨f,t,a,d.ext k,e.ext k⟩
def Kk:Array J:=#[Y X 0,Z O 0 0,I false,Z O 0 0,Z O 0 0,I false,Z O 0 0,Z O 0 0,I false,Z O 0 0,Z O 0 0,I false,Z O 0 0,Y X 0,Y X 0,Y X 0,Y X 0]
def qg(w:M)(o:Option Be)(e:Ending)(w':M):Prop:=
 Aa w w'/\((o=O/\e=.returned (.tuple #[.agg Kk,I false]))\/(∃b c,o=V b/\e=.returned (.tuple #[.agg c.toArray,I true])/\uk w' c b))
def rE{w W b}(h:Aa w W)(j:w.heap.size<=b) k l m n o p q r u8 s a c d e f g i:Aa w (((((((((((((((((W.setCell ⟨b,0,O⟩ k).setCell ⟨b,1,O⟩ l).setCell ⟨b,2,O⟩ m).setCell ⟨b,3,O⟩ n).setCell ⟨b,4,O⟩ o).setCell ⟨b,5,O⟩ p).setCell ⟨b,6,O⟩ q).setCell ⟨b,7,O⟩ r).setCell ⟨b,8,O⟩ u8).setCell ⟨b,9,O⟩ s).setCell ⟨b,10,O⟩ a).setCell ⟨b,11,O⟩ c).setCell ⟨b,12,O⟩ d).setCell ⟨b,13,O⟩ e).setCell ⟨b,14,O⟩ f).setCell ⟨b,15,O⟩ g).setCell ⟨b,16,O⟩ i):=by
 repeat(refine Aa.set ?_ j _)
 exact h
def XD{W T b}(n0:td T W b) j k l m n o p q u8 r a c d e f g i:Ia T W (((((((((((((((((W.setCell ⟨b,0,O⟩ j).setCell ⟨b,1,O⟩ k).setCell ⟨b,2,O⟩ l).setCell ⟨b,3,O⟩ m).setCell ⟨b,4,O⟩ n).setCell ⟨b,5,O⟩ o).setCell ⟨b,6,O⟩ p).setCell ⟨b,7,O⟩ q).setCell ⟨b,8,O⟩ u8).setCell ⟨b,9,O⟩ r).setCell ⟨b,10,O⟩ a).setCell ⟨b,11,O⟩ c).setCell ⟨b,12,O⟩ d).setCell ⟨b,13,O⟩ e).setCell ⟨b,14,O⟩ f).setCell ⟨b,15,O⟩ g).setCell ⟨b,16,O⟩ i):=by repeat(first|with_reducible exact Ia.refl _ _|(with_reducible refine Ia.x ?_ ?_ _)|with_reducible exact n0|with_reducible refine td.set ?_ _ _)
def Ea.set17{L W b}(h:Ea L W)(a:∀q∈L,b≠q.1.block) k l m n o r s t u8 u c d e f g i j:Ea L (((((((((((((((((W.setCell ⟨b,0,O⟩ k).setCell ⟨b,1,O⟩ l).setCell ⟨b,2,O⟩ m).setCell ⟨b,3,O⟩ n).setCell ⟨b,4,O⟩ o).setCell ⟨b,5,O⟩ r).setCell ⟨b,6,O⟩ s).setCell ⟨b,7,O⟩ t).setCell ⟨b,8,O⟩ u8).setCell ⟨b,9,O⟩ u).setCell ⟨b,10,O⟩ c).setCell ⟨b,11,O⟩ d).setCell ⟨b,12,O⟩ e).setCell ⟨b,13,O⟩ f).setCell ⟨b,14,O⟩ g).setCell ⟨b,15,O⟩ i).setCell ⟨b,16,O⟩ j):=
 (Ea.set (p:=⟨b,16,O⟩) (Ea.set (p:=⟨b,15,O⟩) (Ea.set (p:=⟨b,14,O⟩) (Ea.set (p:=⟨b,13,O⟩) (Ea.set (p:=⟨b,12,O⟩) (Ea.set (p:=⟨b,11,O⟩) (Ea.set (p:=⟨b,10,O⟩) (Ea.set (p:=⟨b,9,O⟩) (Ea.set (p:=⟨b,8,O⟩) (Ea.set (p:=⟨b,7,O⟩) (Ea.set (p:=⟨b,6,O⟩) (Ea.set (p:=⟨b,5,O⟩) (Ea.set (p:=⟨b,4,O⟩) (Ea.set (p:=⟨b,3,O⟩) (Ea.set (p:=⟨b,2,O⟩) (Ea.set (p:=⟨b,1,O⟩) (Ea.set (p:=⟨b,0,O⟩) h a _) a _) a _) a _) a _) a _) a _) a _) a _) a _) a _) a _) a _) a _) a _) a _) a _)
def Rk.keep{w w' v x z}(h:Rk w v x z)(k:Ia 2 w w'):Rk w' v x z:=by obtain⟨a,m,c,s,d,p,f,b,n,l,t,e,q,o,g,i,j⟩:=h;exact⟨a,m,c,s,d,p,f,b,n,l,t,e,q,o,g,i.keep k,j.keep k⟩
def SL w vg vs ps(a:Nat) p m(hg:∃a n c,vg=Z a n c)(e:Ic w vs ps)(g:ps[a]?=V p):Calls Tryz.prog 72 #[.agg #[vg,vs],Y X a,Y X a,Y X m] w (qg w O):=by
 obtain⟨ga,gn,gc,rfl⟩:=hg;obtain⟨sa,n,sc,rfl⟩:=Ja e;have hl:=e.len;have i:=e.le;obtain⟨b,o,s,vl,vu,rfl,hb,P,R,W,d⟩:=e.at' g;obtain⟨q,t,r,rfl⟩:=Ja P;obtain⟨j,l,k,rfl⟩:=Ja R;obtain⟨u,y,x,rfl⟩:=Ja W;have hi:=(lS.1 g).1;have p1:(0:Int)<=(a:Int):=oM;have p2:(a:Int)<(n:Int):=oM;have p3:a<n:=oM;have f:=d 0 (.string p.name) rfl;have aa:=d 1 (Z q t r) rfl;have ab:=d 2 (Y X p.depth) rfl;have ac:=d 3 (Y X p.density) rfl;have ad:=d 4 (Y X p.gx) rfl;have ae:=d 5 (Y X p.gz) rfl;have af:=d 6 (Y X p.way) rfl;have ag:=d 7 (Y X p.ax) rfl;have ah:=d 8 (Y X p.az) rfl;have ai:=d 9 (Y .u8 p.skin) rfl;have z:=d 10 (Z j l k) rfl;have K:=d 11 (Z u y x) rfl;simp only[Nat.add_zero]at f;clear e g d P R W hl i hi;go_in;go_wp2;refine Uc [] trivial fun aj=>?_;refine sN 0 ?_
 iterate 4 refine Bb ?_
 iterate 14 refine Nf ?_
 refine Bb ?_;refine oN ?_;refine Sb ?_;go_wp2;refine bR (v:=.tuple #[.agg Kk,I false]) (by unfold Kk;simp[results,Tryz.results72,go_sem]) rfl ?_;exact⟨eA,.inl ⟨rfl,rfl⟩⟩
end
section
open Go.RowKit Go.Shelf Go.Sort Go.Lib
def jQ(zs:List Int)(h:zs.Pairwise (·<=·)):(compact zs).Pairwise (·<·):=by
 have d:∀j,(hj:j<zs.length)->zs.toArray[j]! = zs[j]:=fun j hj=>by rw[getElem!_pos _ _ (by simpa using hj)];simp
 unfold compact compactUpTo;rw[List.pairwise_map];have g:((List.range zs.length).filter (keeps zs.toArray)).Pairwise (·<·):=List.Pairwise.filter _ List.pairwise_lt_range;refine List.Pairwise.imp_of_mem (fun {i j} l hj k=>?_) g;have c:=List.mem_filter.1 hj;have a:=List.mem_range.1 c.1;have b:=c.2;unfold keeps at b;rw[decide_eq_true_eq]at b;rw[d j a,d (j-1) oM]at b;rw[d i oM,d j a];have f:=List.pairwise_iff_getElem.1 h;have m:zs[i]<=zs[j-1]:=by
  by_cases e:i=j-1
  ·subst e;exact Int.le_refl _
  ·exact f i (j-1) oM oM oM
 have n:=f (j-1) j oM a oM;rcases b with b|b
 ·omega
 ·omega
def YJ zs:(Vf zs).Pairwise (·<=·):=by unfold Vf;have:=List.pairwise_mergeSort (le:=fun x y:Int=>decide (x<=y)) (fun a b c d e=>by simp at *;omega) (fun a b=>by simp;omega) zs;exact this.imp fun h=>by simpa using h
def QN s:(Eb s).Pairwise (·<·):=jQ _ (YJ _)
def lh{s z}:z∈Eb s ↔ (z=s.lo\/z=s.hi\/(s.lo<z/\z<s.hi/\∃q∈s.over++s.under,q.1=z)):=by
 constructor
 ·intro h;have a:=Fh.1 (Gx h);rcases List.mem_cons.1 a with a|a
  ·exact .inl a
  rcases List.mem_cons.1 a with a|a
  ·exact .inr (.inl a)
  ·unfold Wf at a;obtain⟨c,b⟩:=List.mem_filter.1 a;obtain⟨q,d,rfl⟩:=List.mem_map.1 c;unfold Cq at b;simp at b;exact .inr (.inr ⟨b.1,b.2,q,d,rfl⟩)
 ·intro h;obtain⟨y,f,e⟩:=List.mem_map.1 (MK h);have:y=z:=by exact_mod_cast e
  rwa [<-this]
def LK{s}(h:s.lo<s.hi){z}(c:z∈Eb s):s.lo<=z/\z<=s.hi:=by rcases lh.1 c with e|e|⟨a,b,_⟩<;>omega
section
variable {L U:LP} (rL:vd L) (rU:vd U) (nL:L≠[]) (nU:U≠[])
include rL rU nL nU
end
end
section
open Go.RowKit Go.Shelf
attribute [local go_sem] Oper.semAt_some
def Wv{q s b c}{m:Nat}{u}(h:(nc q s)[m]?=V u):(De q s b c)[m]?=V u:=by
 have a:=(Array.getElem?_eq_some_iff.1 h).1;unfold nc at h a;unfold De
 match m,a with
 | 0,_|1,_|2,_|3,_|4,_|5,_|6,_|7,_|8,_|9,_=>simpa using h
 | m+10,a=>exact absurd a (by simp only[List.size_toArray,List.length_cons,List.length_nil];omega)
def Yy(w:M)(c d:J)(a:Array J)(b:J)(W:M):Prop:=
 b=I false/\Aa w W/\W.heap[w.heap.size]?=V (.cells #[c,d] 124 (0,0))/\W.heap[w.heap.size+1]?=V (.cells Kk 79 (0,0))/\W.heap[w.heap.size+1+1]?=V (.cells a 128 (0,0))
def kl{W:M}{b}(h:W.heap[b]?=V (.cells Kk 79 (0,0))):W.cell? ⟨b,0,O⟩=V (Y X 0)/\W.cell? ⟨b,1,O⟩=V (Z O 0 0)/\W.cell? ⟨b,2,O⟩=V (I false)/\W.cell? ⟨b,3,O⟩=V (Z O 0 0)/\W.cell? ⟨b,4,O⟩=V (Z O 0 0)/\W.cell? ⟨b,5,O⟩=V (I false)/\W.cell? ⟨b,6,O⟩=V (Z O 0 0)/\W.cell? ⟨b,7,O⟩=V (Z O 0 0)/\W.cell? ⟨b,8,O⟩=V (I false)/\W.cell? ⟨b,9,O⟩=V (Z O 0 0)/\W.cell? ⟨b,10,O⟩=V (Z O 0 0)/\W.cell? ⟨b,11,O⟩=V (I false)/\W.cell? ⟨b,12,O⟩=V (Z O 0 0)/\W.cell? ⟨b,13,O⟩=V (Y X 0)/\W.cell? ⟨b,14,O⟩=V (Y X 0)/\W.cell? ⟨b,15,O⟩=V (Y X 0)/\W.cell? ⟨b,16,O⟩=V (Y X 0):=
 ⟨Ba h rfl,Ba h rfl,Ba h rfl,Ba h rfl,Ba h rfl,Ba h rfl,Ba h rfl,Ba h rfl,Ba h rfl,Ba h rfl,Ba h rfl,Ba h rfl,Ba h rfl,Ba h rfl,Ba h rfl,Ba h rfl,Ba h rfl⟩
def uB w vg vs ps(a:Nat) p b am(hg:∃a n c,vg=Z a n c)(R:Ic w vs ps)(ha:ps[a]?=V p)(g:Nat)(af:b=(g:Int)) q(hq:ps[g]?=V q)(ab:ve p q=false)(ai:(a:Int)≠b):Calls Tryz.prog 72 #[.agg #[vg,vs],Y X a,Y X b,Y X am] w (qg w O):=by
 subst af;obtain⟨ga,gn,gc,rfl⟩:=hg;obtain⟨sa,n,sc,rfl⟩:=Ja R;have hl:=R.len;have ah:=R.le;obtain⟨j,o,s,vl,vu,rfl,aQ,d1,d2,d3,k⟩:=R.at' ha;obtain⟨t,K,y,rfl⟩:=Ja d1;obtain⟨aj,al,ak,rfl⟩:=Ja d2;obtain⟨ay,aB,aA,rfl⟩:=Ja d3;have hi:=(lS.1 ha).1;have p1:(0:Int)<=(a:Int):=oM;have p2:(a:Int)<(n:Int):=oM;have p3:a<n:=oM;have ac:=k 0 (.string p.name) rfl;have aG:=k 1 (Z t K y) rfl;have aH:=k 2 (Y X p.depth) rfl;have aI:=k 3 (Y X p.density) rfl;have aJ:=k 4 (Y X p.gx) rfl;have aK:=k 5 (Y X p.gz) rfl;have aL:=k 6 (Y X p.way) rfl;have aM:=k 7 (Y X p.ax) rfl;have aO:=k 8 (Y X p.az) rfl;have aP:=k 9 (Y .u8 p.skin) rfl;have aC:=k 10 (Z aj al ak) rfl;have aD:=k 11 (Z ay aB aA) rfl;simp only[Nat.add_zero]at ac;have aU:((a:Int)==(g:Int))=false:=by simpa using ai
 obtain⟨b1,o1,s',a5,a6,e9,aR,aa,ad,ae,d⟩:=R.at' hq;cases e9;have aT:(0:Int)<=(g:Int):=oM;have aS:decide ((0:Int)<=(g:Int))=true:=sM;have aE:j<w.heap.size+1:=oM;have aF:j<w.heap.size+1+1:=oM;obtain⟨x,P,z,rfl⟩:=Ja aa;have ag:=(lS.1 hq).1;have r2:(g:Int)<(n:Int):=oM;have r4:g<n:=oM;have an:=d 0 (.string q.name) rfl;have aW:=d 1 (Z x P z) rfl;have aX:=d 2 (Y X q.depth) rfl;have aY:=d 3 (Y X q.density) rfl;have aZ:=d 4 (Y X q.gx) rfl;have a0:=d 5 (Y X q.gz) rfl;have a1:=d 6 (Y X q.way) rfl;have a2:=d 7 (Y X q.ax) rfl;have a3:=d 8 (Y X q.az) rfl;have a4:=d 9 (Y .u8 q.skin) rfl;simp only[Nat.add_zero]at an;have l:=ka (fun(W:M)=>Du W p q (Z t K y) (Z x P z) ⟨_,_,_,rfl⟩ ⟨_,_,_,rfl⟩);rw[ab]at l;unfold nc at l;clear R ha k d hq ab aa ad ae ag d1 d2 d3 hl ah hi;go_in;go_wp2;refine Uc [(⟨w.heap.size+1+1,0,O⟩,.string p.name),(⟨w.heap.size+1+1,1,O⟩,Z t K y),(⟨w.heap.size+1+1,2,O⟩,Y X p.depth),(⟨w.heap.size+1+1,3,O⟩,Y X p.density),(⟨w.heap.size+1+1,4,O⟩,Y X p.gx),(⟨w.heap.size+1+1,5,O⟩,Y X p.gz),(⟨w.heap.size+1+1,6,O⟩,Y X p.way),(⟨w.heap.size+1+1,7,O⟩,Y X p.ax),(⟨w.heap.size+1+1,8,O⟩,Y X p.az),(⟨w.heap.size+1+1,9,O⟩,Y .u8 p.skin),(⟨w.heap.size,1,O⟩,Z (V ⟨j,o,O⟩) n sc),(⟨j,o+g*12,O⟩,.string q.name),(⟨j,o+g*12+1,O⟩,Z x P z),(⟨j,o+g*12+2,O⟩,Y X q.depth),(⟨j,o+g*12+3,O⟩,Y X q.density),(⟨j,o+g*12+4,O⟩,Y X q.gx),(⟨j,o+g*12+5,O⟩,Y X q.gz),(⟨j,o+g*12+6,O⟩,Y X q.way),(⟨j,o+g*12+7,O⟩,Y X q.ax),(⟨j,o+g*12+8,O⟩,Y X q.az),(⟨j,o+g*12+9,O⟩,Y .u8 q.skin)] cA fun m=>?_;refine sN 0 ?_
 iterate 15 refine Bb ?_
 refine oN ?_;refine Fb (i:=15) (l.o _) ?_;rintro e w3 ⟨rfl,r⟩;refine⟨_,rfl,(cE m r),fun m=>?_⟩;refine sN 16 ?_
 iterate 3 refine Bb ?_
 refine oN ?_;refine Sb ?_;have X3:Aa w w3:=((((eR w).alloc _).alloc _).alloc _).drew.trans r;have f:w3.heap[w.heap.size+1]?=V (.cells Kk 79 (0,0)):=r.e ((((eR _).alloc _).drew).e (Bc _ _ _ sM));have aV:∀i,w3.frozen? ⟨w.heap.size+1,i,O⟩=false:=fun i=>Ya f i;have u0:=Ba f (i:=0) (u:=Y X 0) rfl;have u1:=Ba f (i:=1) (u:=Z O 0 0) rfl;have u2:=Ba f (i:=2) (u:=I false) rfl;have u3:=Ba f (i:=3) (u:=Z O 0 0) rfl;have u4:=Ba f (i:=4) (u:=Z O 0 0) rfl;have u5:=Ba f (i:=5) (u:=I false) rfl;have u6:=Ba f (i:=6) (u:=Z O 0 0) rfl;have u7:=Ba f (i:=7) (u:=Z O 0 0) rfl;have u8:=Ba f (i:=8) (u:=I false) rfl;have u9:=Ba f (i:=9) (u:=Z O 0 0) rfl;have ao:=Ba f (i:=10) (u:=Z O 0 0) rfl;have ap:=Ba f (i:=11) (u:=I false) rfl;have aq:=Ba f (i:=12) (u:=Z O 0 0) rfl;have ar:=Ba f (i:=13) (u:=Y X 0) rfl;have au:=Ba f (i:=14) (u:=Y X 0) rfl;have av:=Ba f (i:=15) (u:=Y X 0) rfl;have aw:=Ba f (i:=16) (u:=Y X 0) rfl;clear m;have a7:=Jb f;go_wp2;refine bR (v:=.tuple #[.agg Kk,I false]) (by unfold Kk;simp[results,Tryz.results72,go_sem,u0,u1,u2,u3,u4,u5,u6,u7,u8,u9,ao,ap,aq,ar,au,av,aw]) rfl ?_;exact⟨eA,.inl ⟨rfl,rfl⟩⟩
