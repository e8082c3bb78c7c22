import Derived.Test.YtjnjpagegkcgfaaGreatDoorCobA18
set_option maxRecDepth 1000000
set_option maxHeartbeats 16000000
set_option linter.all false
open Option renaming none->O,some->V
open Go.Value renaming slice->Y,int->Z,bool->M
open Go.IntKind renaming i64->X
open Go renaming Value->I,World->J
namespace Go.Proofs.YtjnjpagegkcgfaaGreatDoor.Cop
section
open Go.RowKit Go.Shelf
attribute [local go_sem] Oper.semAt_some
def qw(w:J)(b c:I)(s:Sp)(pin:Int)(d:Ja w b s.over)(e:Ja w c s.under)(a:Gg s)(f:Bd 104000 pin):Calls Tryz.prog 143 #[Hi s b c,Z X pin] w (Ck w (Ac s pin)):=by
 cases hno:pd s pin with
 | true=>exact qK w b c s pin d e a f hno
 | false=>exact MO w b c s pin d e a f hno
structure Be where
 num:Int
 fx:Rat
 fz:Rat
 tx:Rat
 tz:Rat
 d1:Int×Int
 d2:Int×Int
def Of(p:Pl)(t:LP)(b pin:Int):Option Be:=
 if (Nb (Ea p) t).lo<(Nb (Ea p) t).hi then
  (Ac (Nb (Ea p) t) pin).map fun o=>⟨b,o.1,Yd (Ea p) o.1,o.2,Yd (Ea p) o.2,Qa t o.1 o.2,Qa t o.2 o.2⟩
 else O
def Ji(w:J)(c:List I)(b:Be):Prop:=
 ∃f t:List I,c=Z X b.num::(f++(t++[Z X b.d1.1,Z X b.d1.2,Z X b.d2.1,Z X b.d2.2]))/\jl w (.agg f.toArray) b.fx b.fz/\jl w (.agg t.toArray) b.tx b.tz
def Ji.ext{w w':J}{c:List I}{b:Be}(h:Ji w c b)(k:Ba w w'):Ji w' c b:=by obtain⟨f,t,a,d,e⟩:=h;exact⟨f,t,a,d.ext k,e.ext k⟩
def Yj:Array I:=#[Z X 0,Y O 0 0,M false,Y O 0 0,Y O 0 0,M false,Y O 0 0,Y O 0 0,M false,Y O 0 0,Y O 0 0,M false,Y O 0 0,Z X 0,Z X 0,Z X 0,Z X 0]
def Vf(w:J)(o:Option Be)(e:Ending)(w':J):Prop:=
 Ba w w'/\((o=O/\e=.returned (.tuple #[.agg Yj,M false]))\/(∃b c,o=V b/\e=.returned (.tuple #[.agg c.toArray,M true])/\Ji w' c b))
def vw{w W:J}{b:Nat}(h:Ba w W)(j:w.heap.size<=b)(k l m n o p q r u8 s a c d e f g i:I):Ba w (((((((((((((((((W.setCell ⟨b,0,O⟩ k).setCell ⟨b,1,O⟩ l).setCell ⟨b,2,O⟩ m).setCell ⟨b,3,O⟩ n).setCell ⟨b,4,O⟩ o).setCell ⟨b,5,O⟩ p).setCell ⟨b,6,O⟩ q).setCell ⟨b,7,O⟩ r).setCell ⟨b,8,O⟩ u8).setCell ⟨b,9,O⟩ s).setCell ⟨b,10,O⟩ a).setCell ⟨b,11,O⟩ c).setCell ⟨b,12,O⟩ d).setCell ⟨b,13,O⟩ e).setCell ⟨b,14,O⟩ f).setCell ⟨b,15,O⟩ g).setCell ⟨b,16,O⟩ i):=by
 repeat(refine Ba.set ?_ j _)
 exact h
def tD{W:J}{T:TypeId}{b:Nat}(n0:ld T W b)(j k l m n o p q u8 r a c d e f g i:I):Ia T W (((((((((((((((((W.setCell ⟨b,0,O⟩ j).setCell ⟨b,1,O⟩ k).setCell ⟨b,2,O⟩ l).setCell ⟨b,3,O⟩ m).setCell ⟨b,4,O⟩ n).setCell ⟨b,5,O⟩ o).setCell ⟨b,6,O⟩ p).setCell ⟨b,7,O⟩ q).setCell ⟨b,8,O⟩ u8).setCell ⟨b,9,O⟩ r).setCell ⟨b,10,O⟩ a).setCell ⟨b,11,O⟩ c).setCell ⟨b,12,O⟩ d).setCell ⟨b,13,O⟩ e).setCell ⟨b,14,O⟩ f).setCell ⟨b,15,O⟩ g).setCell ⟨b,16,O⟩ i):=by repeat(first|with_reducible exact Ia.refl _ _|(with_reducible refine Ia.x ?_ ?_ _)|with_reducible exact n0|with_reducible refine ld.set ?_ _ _)
def Da.set17{L:List (Addr×I)}{W:J}{b:Nat}(h:Da L W)(a:∀q∈L,b≠q.1.block)(k l m n o r s t u8 u c d e f g i j:I):Da L (((((((((((((((((W.setCell ⟨b,0,O⟩ k).setCell ⟨b,1,O⟩ l).setCell ⟨b,2,O⟩ m).setCell ⟨b,3,O⟩ n).setCell ⟨b,4,O⟩ o).setCell ⟨b,5,O⟩ r).setCell ⟨b,6,O⟩ s).setCell ⟨b,7,O⟩ t).setCell ⟨b,8,O⟩ u8).setCell ⟨b,9,O⟩ u).setCell ⟨b,10,O⟩ c).setCell ⟨b,11,O⟩ d).setCell ⟨b,12,O⟩ e).setCell ⟨b,13,O⟩ f).setCell ⟨b,14,O⟩ g).setCell ⟨b,15,O⟩ i).setCell ⟨b,16,O⟩ j):=
 (Da.set (p:=⟨b,16,O⟩) (Da.set (p:=⟨b,15,O⟩) (Da.set (p:=⟨b,14,O⟩) (Da.set (p:=⟨b,13,O⟩) (Da.set (p:=⟨b,12,O⟩) (Da.set (p:=⟨b,11,O⟩) (Da.set (p:=⟨b,10,O⟩) (Da.set (p:=⟨b,9,O⟩) (Da.set (p:=⟨b,8,O⟩) (Da.set (p:=⟨b,7,O⟩) (Da.set (p:=⟨b,6,O⟩) (Da.set (p:=⟨b,5,O⟩) (Da.set (p:=⟨b,4,O⟩) (Da.set (p:=⟨b,3,O⟩) (Da.set (p:=⟨b,2,O⟩) (Da.set (p:=⟨b,1,O⟩) (Da.set (p:=⟨b,0,O⟩) h a _) a _) a _) a _) a _) a _) a _) a _) a _) a _) a _) a _) a _) a _) a _) a _) a _)
def jl.keep{w w':J}{v:I}{x z:Rat}(h:jl w v x z)(k:Ia 2 w w'):jl w' v x z:=by obtain⟨a,m,c,s,d,p,f,b,n,l,t,e,q,o,g,i,j⟩:=h;exact⟨a,m,c,s,d,p,f,b,n,l,t,e,q,o,g,i.keep k,j.keep k⟩
def AL(w:J)(R S:I)(ps:List Pl)(a:Nat)(p:Pl)(pin:Int)(hg:∃a n c,R=Y a n c)(e:Sb w S ps)(g:ps[a]?=V p):Calls Tryz.prog 72 #[.agg #[R,S],Z X a,Z X a,Z X pin] w (Vf w O):=by
 obtain⟨ga,gn,gc,rfl⟩:=hg;obtain⟨sa,n,sc,rfl⟩:=La e;have hl:=e.len;have i:=e.le;obtain⟨b,o,s,vl,vu,rfl,hb,K,P,Q,d⟩:=e.at' g;obtain⟨m,r,q,rfl⟩:=La K;obtain⟨j,l,k,rfl⟩:=La P;obtain⟨t,x,u,rfl⟩:=La Q;have hi:=(lS.1 g).1;have p1:(0:Int)<=(a:Int):=oM;have p2:(a:Int)<(n:Int):=oM;have p3:a<n:=oM;have f:=d 0 (.string p.name) rfl;have T:=d 1 (Y m r q) rfl;have W:=d 2 (Z X p.depth) rfl;have aa:=d 3 (Z X p.density) rfl;have ab:=d 4 (Z X p.gx) rfl;have ac:=d 5 (Z X p.gz) rfl;have ad:=d 6 (Z X p.way) rfl;have ae:=d 7 (Z X p.ax) rfl;have af:=d 8 (Z X p.az) rfl;have ag:=d 9 (Z .u8 p.skin) rfl;have y:=d 10 (Y j l k) rfl;have z:=d 11 (Y t x u) rfl;simp only[Nat.add_zero]at f;clear e g d K P Q hl i hi;go_in;go_wp2;refine Kc [] trivial fun ah=>?_;refine sN 0 ?_
 iterate 4 refine xb ?_
 iterate 14 refine Ee ?_
 refine xb ?_;refine oN ?_;refine Wb ?_;go_wp2;refine bR (v:=.tuple #[.agg Yj,M false]) (by unfold Yj;simp[results,Tryz.results72,go_sem]) rfl ?_;exact⟨eA,.inl ⟨rfl,rfl⟩⟩
end
section
open Go.RowKit Go.Shelf Go.Sort Go.Lib
def MP(zs:List Int)(h:zs.Pairwise (·<=·)):(compact zs).Pairwise (·<·):=by
 have d:∀j,(hj:j<zs.length)->zs.toArray[j]! = zs[j]:=fun j hj=>by rw[getElem!_pos _ _ (by simpa using hj)];simp
 unfold compact compactUpTo;rw[List.pairwise_map];have g:((List.range zs.length).filter (keeps zs.toArray)).Pairwise (·<·):=List.Pairwise.filter _ List.pairwise_lt_range;refine List.Pairwise.imp_of_mem (fun {i j} l hj k=>?_) g;have c:=List.mem_filter.1 hj;have a:=List.mem_range.1 c.1;have b:=c.2;unfold keeps at b;rw[decide_eq_true_eq]at b;rw[d j a,d (j-1) oM]at b;rw[d i oM,d j a];have f:=List.pairwise_iff_getElem.1 h;have m:zs[i]<=zs[j-1]:=by
  by_cases e:i=j-1
  ·subst e;exact Int.le_refl _
  ·exact f i (j-1) oM oM oM
 have n:=f (j-1) j oM a oM;rcases b with b|b
 ·omega
 ·omega
def yJ(zs:List Int):(pg zs).Pairwise (·<=·):=by unfold pg;have:=List.pairwise_mergeSort (le:=fun x y:Int=>decide (x<=y)) (fun a b c d e=>by simp at *;omega) (fun a b=>by simp;omega) zs;exact this.imp fun h=>by simpa using h
def AN(s:Sp):(Mc s).Pairwise (·<·):=MP _ (yJ _)
def lh{s:Sp}{z:Int}:z∈Mc s ↔ (z=s.lo\/z=s.hi\/(s.lo<z/\z<s.hi/\∃q∈s.over++s.under,q.1=z)):=by
 constructor
 ·intro h;have a:=Eh.1 (OE h);rcases List.mem_cons.1 a with a|a
  ·exact .inl a
  rcases List.mem_cons.1 a with a|a
  ·exact .inr (.inl a)
  ·unfold Eg at a;obtain⟨c,b⟩:=List.mem_filter.1 a;obtain⟨q,d,rfl⟩:=List.mem_map.1 c;unfold jq at b;simp at b;exact .inr (.inr ⟨b.1,b.2,q,d,rfl⟩)
 ·intro h;obtain⟨y,f,e⟩:=List.mem_map.1 (jw h);have:y=z:=by exact_mod_cast e
  rwa [<-this]
def ZA{s:Sp}(h:s.lo<s.hi){z:Int}(c:z∈Mc s):s.lo<=z/\z<=s.hi:=by rcases lh.1 c with e|e|⟨a,b,_⟩<;>omega
section
variable {L U:LP} (rL:Gc L) (rU:Gc U) (nL:L≠[]) (nU:U≠[])
include rL rU nL nU
end
end
section
open Go.RowKit Go.Shelf
attribute [local go_sem] Oper.semAt_some
def qv{q:Pl}{s b c:I}{m:Nat}{u:I}(h:(Dd q s)[m]?=V u):(Je q s b c)[m]?=V u:=by
 have a:=(Array.getElem?_eq_some_iff.1 h).1;unfold Dd at h a;unfold Je
 match m,a with
 | 0,_|1,_|2,_|3,_|4,_|5,_|6,_|7,_|8,_|9,_=>simpa using h
 | m+10,a=>exact absurd a (by simp only[List.size_toArray,List.length_cons,List.length_nil];omega)
def ry(w:J)(c d:I)(a:Array I)(b:I)(W:J):Prop:=
 b=M false/\Ba w W/\W.heap[w.heap.size]?=V (.cells #[c,d] 124 (0,0))/\W.heap[w.heap.size+1]?=V (.cells Yj 79 (0,0))/\W.heap[w.heap.size+1+1]?=V (.cells a 128 (0,0))
def BS{W:J}{b:Nat}(h:W.heap[b]?=V (.cells Yj 79 (0,0))):W.cell? ⟨b,0,O⟩=V (Z X 0)/\W.cell? ⟨b,1,O⟩=V (Y O 0 0)/\W.cell? ⟨b,2,O⟩=V (M false)/\W.cell? ⟨b,3,O⟩=V (Y O 0 0)/\W.cell? ⟨b,4,O⟩=V (Y O 0 0)/\W.cell? ⟨b,5,O⟩=V (M false)/\W.cell? ⟨b,6,O⟩=V (Y O 0 0)/\W.cell? ⟨b,7,O⟩=V (Y O 0 0)/\W.cell? ⟨b,8,O⟩=V (M false)/\W.cell? ⟨b,9,O⟩=V (Y O 0 0)/\W.cell? ⟨b,10,O⟩=V (Y O 0 0)/\W.cell? ⟨b,11,O⟩=V (M false)/\W.cell? ⟨b,12,O⟩=V (Y O 0 0)/\W.cell? ⟨b,13,O⟩=V (Z X 0)/\W.cell? ⟨b,14,O⟩=V (Z X 0)/\W.cell? ⟨b,15,O⟩=V (Z X 0)/\W.cell? ⟨b,16,O⟩=V (Z X 0):=
 ⟨Ca h rfl,Ca h rfl,Ca h rfl,Ca h rfl,Ca h rfl,Ca h rfl,Ca h rfl,Ca h rfl,Ca h rfl,Ca h rfl,Ca h rfl,Ca h rfl,Ca h rfl,Ca h rfl,Ca h rfl,Ca h rfl,Ca h rfl⟩
