import Derived.Test.YtjnjpagegkcgfaaGreatDoorCobA10
import Derived.Test.YtjnjpagegkcgfaaGreatDoorCobA09
set_option maxRecDepth 1000000
set_option maxHeartbeats 16000000
set_option linter.all false
open Go.Value renaming slice->O,int->N,bool->Oc,agg->Od,pointer->Oe
open Option renaming some->V,none->H
open Go renaming World->I,Value->Oa
open Go.IntKind renaming i64->C
open Go.Obj renaming cells->Ob
namespace Go.Proofs.YtjnjpagegkcgfaaGreatDoor.Cop
section
open Go.RowKit Go.Shelf
def Ga(p:Pl):LP:=(Fc p.way p.shape).map fun q=>(q.1+p.ax,q.2+p.az)
def KE{ps:LP}(h:ps≠[]):(Sc ps).length=ps.length:=by have:=(qt h).2;unfold Sc;simp;omega
def Xw{way:Int}{ps:LP}(h:ps≠[]):(Fc way ps).length=ps.length:=by
 unfold Fc;split
 ·rw[KE (by simpa using h)];simp
 ·rw[KE (by simpa using h)];simp
def qE{k:Int}{ps:LP}(h:xg k ps)(c:ps≠[]):xg (k+k) (Sc ps):=fun p d=>by
 obtain⟨q,e,rfl⟩:=List.mem_map.1 d;have a:=h.rot (Fg ps) q e;have b:=PC h c;exact⟨a.1.sub b.1,a.2.sub b.2⟩
def oD{k way:Int}{ps:LP}(h:xg k ps)(a:ps≠[]):xg (k+k) (Fc way ps):=by
 unfold Fc;split
 ·exact qE h.way.rev (by simpa using a)
 ·exact qE h.way (by simpa using a)
def Ix{p:Pl}(h:Fa p=true):Cd (Ie p.name) p.shape p.depth p.density p.gx p.gz=true/\0<=p.way/\p.way<=7/\Bd 100000 p.ax/\Bd 100000 p.az/\1<=p.skin/\p.skin<=3:=by unfold Fa og Ta at h;simp at h;unfold Bd;refine⟨h.1,?_⟩;omega
def To{p:Pl}(h:Fa p=true):xg 104000 (Ga p)/\3<=(Ga p).length/\(Ga p).length<=12:=by
 obtain⟨g,_,_,i,j,_⟩:=Ix h;obtain⟨b,yj,c,_⟩:=Vw g;have a:p.shape≠[]:=by intro e;rw[e]at b;simp at b
 refine⟨fun q d=>?_,?_,?_⟩
 ·obtain⟨r,f,rfl⟩:=List.mem_map.1 d;have:=oD (way:=p.way) c a r f;unfold Bd at *;dsimp only;omega
 ·unfold Ga;rw[lL,Xw a];exact b
 ·unfold Ga;rw[lL,Xw a];exact yj
def vP(w:I)(p:Pl)(v:Oa)(h:Ja w v p.shape)(aq:Fa p=true)(hg:Gw w):Calls Tryz.prog 84 #[Od (Dd p v)] w (Yk 43 2 w ((Ga p).map pc)):=by
 obtain⟨a,c,rfl⟩:=h.form;obtain⟨hB,av,aw,an,ao,_,_⟩:=Ix aq;obtain⟨h3,yj,af,_⟩:=Vw hB;obtain⟨nm,ps,d,de,gx,gz,wy,r,s,sk⟩:=p;dsimp only at h hB av aw an ao h3 yj af;have aa:ps≠[]:=by intro e;rw[e]at h3;simp at h3
 have x:=fun W (hW:Ba w W)=>lN W nm _ ps d de gx gz wy (h.f hW) hB av aw (hg.ext hW);obtain⟨R,ai⟩:=gX (Fc wy ps);have ad:=Xw (way:=wy) aa;have ah:=oD (way:=wy) af aa;have hR:(Ga ⟨nm,ps,d,de,gx,gz,wy,r,s,sk⟩)=R.map fun q=>(q.1+r,q.2+s):=by unfold Ga;rw[<-ai]
 rw[hR];rw[ai]at x ad ah;obtain⟨g2,ap⟩:=gX (Wc wy (gx,gz));rw[ap]at x;obtain⟨n,hn⟩:=gX ps.length;rw[hn]at h x ad h3 yj ⊢;obtain⟨RL,ae⟩:=gX ((R.map (fun q=>(q.1+r,q.2+s))).map pc);rw[ae];have aB:=Aa ae;clear ae;have aC:=Aa x;have aD:=Aa ah;have l:=Aa ad;obtain⟨aK,aL⟩:=an;obtain⟨aM,aO⟩:=ao;clear x ah ad ai ap hn hB af aa hR aq;unfold Dd;dsimp only;go_in;go_wp2_with(first|((go_at_call 153;refine cM (aC.o _ eA) ?_;rintro e w1 ⟨v1,rfl,ab,ak⟩;obtain⟨a1,n1,c1,rfl⟩:=ab.i;obtain rfl:n=n1:=(by have h9:=ab.len;rw[lL,l.o]at h9;exact h9.symm);obtain⟨⟨aF,aG⟩,aA⟩:=Md w ak))|((at_make;refine XP (T:=43) (t:=38) (z:=Od #[N C 0,N C 0]) (k:=2) (bytes:=16) (zs:=[N C 0,N C 0]) Wm rfl rfl dM Tryz.underlying38 rfl _ _ rfl _ rfl rfl rfl oM ?_;intro cs m;simp only[wZ]at m))|((refine pQ (T:=43) (t:=38) (k:=2) (g:=w1.heap.size+1) (n:=n) (cap:=n) (sl:=O a1 n c1) (os:=List.replicate n [N C 0,N C 0]) kM Tryz.underlying38 rfl _ _ rfl rfl rfl m (R.map pc) Bq (ab.rd.ext ?_) ?_ ?_ Aq ?_;exact eA;(simp[l.o]);(simp[l.o];omega);intro w3 o y)));obtain⟨g4,ag⟩:=gX (w1.heap.size+1);rw[ag]at o y ⊢;have ay:Ba w w1:=eA;have aH:=ay.size;have P0:=ak.e (Ec _ _ _ rfl);have P1:=((eR w1).alloc (Ob #[.string nm,O a1 n c1,N C d,N C de,N C g2.1,N C g2.2] 45)).e P0;have P2:=((eR _).alloc (Ob cs 43)).e P1;have zw:w.heap.size<w1.heap.size:=Gb P0;have P3:=li y P2 (fun e=>by cases e;omega);have X3:Ba w w3:=((ay.alloc _).alloc _).y (Mh y (by simp;omega) (fun k hk=>by cases hk;exact nE _)) (by omega:w.heap.size<=g4);have ar:=y.size;simp only[wZ]at ar;have K:=o.mono (b':=g4) (by simp[ag]);have au:g4<=w3.heap.size:=oM;have aU:w.heap.size<g4:=oM;have am:=Aa P3;clear aF aG aA ab ak m o y P0 P1 P2 P3 ag ar aH zw;go_loopg [25] n (fun g aJ W=>rF w g4 (fun q=>(q.1+r,q.2+s)) R (O (V ⟨g4,0,H⟩) n n) g aJ W/\W.heap[w.heap.size]?=V (Ob #[.string nm,O a n c,N C d,N C de,N C gx,N C gz,N C wy,N C r,N C s,N .u8 sk] 47 (0,0)))
 case atStart=>exact⟨⟨0,by omega,rfl,by rw[l.o];rfl,X3,au,by simpa using K⟩,am.o⟩
 case round =>
  clear X3 au K am;obtain⟨⟨i,hi,rfl,rfl,hx,aI,b⟩,hP⟩:=hrel;rw[l.o]at hi;by_cases aT:i<n
  ·obtain⟨⟨qx,qz⟩,hq⟩:∃q,R[i]?=V q:=⟨R[i]'(by rw[l.o];omega),by simp⟩;have ac:=Kz (f:=fun q=>(q.1+r,q.2+s)) hq;have d0:=b.cell (j:=0) ac rfl;have d1:=b.cell (j:=1) ac rfl;simp only[Nat.add_zero]at d0;dsimp only at d0 d1;have f0:=b.frozen;obtain⟨⟨b1,b2⟩,b3,b4⟩:=aD.o (qx,qz) (lM hq);have aP:(-4000:Int)<=qx:=by simpa using b1
   have aQ:qx<=4000:=by simpa using b2
   have aR:(-4000:Int)<=qz:=by simpa using b3
   have aS:qz<=4000:=by simpa using b4
   have p7:=Ca hP (i:=7) (u:=N C r) rfl;have p8:=Ca hP (i:=8) (u:=N C s) rfl;have aj:=fun(W:I)(h:Ka 43 2 W g4 (O (V ⟨g4,0,H⟩) n n) (((R.take i).map (fun q=>(q.1+r,q.2+s))++R.drop i).map pc))=>h.pair ac (N C (qx+r)) (N C (qz+s));rw[Jz (f:=fun q=>(q.1+r,q.2+s)) hq rfl _ rfl]at aj;have aE:=Aa aj;have al:=Aa b;have HP:=Aa hP;have zg:=(b.lt g4 rfl).2;have aa:¬g4=w.heap.size:=oM;have p1:(0:Int)<=(i:Int):=oM;have p2:(i:Int)<(n:Int):=oM;clear aj ac hq b hP b1 b2 b3 b4;go_wp2
   go_region_with fail
   all_goals go_wp2
   all_goals go_region_with fail
   all_goals go_wp2
   all_goals
    go_roundg (n-(i+1))
    case measure=>have:=l.o;omega
    case rel =>
     refine⟨⟨i+1,by have:=l.o;omega,by go_num,by rw[l.o],eA,by simp only[Bg,Cc];exact aI,?_⟩,?_⟩
     ·exact aE.o _ al.o
     ·show ((wr.setCell _ _).setCell _ _).heap[_]?=_;rw[bS _ _ _ _ dO,bS _ _ _ _ dO];exact HP.o
  ·obtain rfl:i=n:=oM;have e:((R.take i).map (fun q=>(q.1+r,q.2+s))++R.drop i)=R.map (fun q=>(q.1+r,q.2+s)):=by
    rw[lT (by rw[l.o];exact nE _),List.drop_of_length_le (by rw[l.o];exact nE _),List.append_nil]
   rw[e,aB.o]at b;go_wp2;go_ret;exact⟨_,rfl,b.mono oM,hx⟩
def ze(cs:LP)(i:Nat):LP:=if (cs.getD i (0,0)).1<(cs.getD ((i+1)%cs.length) (0,0)).1 then [cs.getD i (0,0),cs.getD ((i+1)%cs.length) (0,0)]else []
def Af(cs:LP)(i:Nat):LP:=if (cs.getD ((i+1)%cs.length) (0,0)).1<(cs.getD i (0,0)).1 then [cs.getD i (0,0),cs.getD ((i+1)%cs.length) (0,0)]else []
def Tc(cs:LP)(i:Nat):LP:=(List.range i).flatMap (ze cs)
def pe(cs:LP)(i:Nat):LP:=(List.range i).flatMap (Af cs)
def Eu(cs:LP)(i:Nat):Tc cs (i+1)=Tc cs i++ze cs i:=by simp[Tc,List.range_succ]
def Vt(cs:LP)(i:Nat):pe cs (i+1)=pe cs i++Af cs i:=by simp[pe,List.range_succ]
def jC{cs:LP}{i:Nat}(h:i<cs.length):∀q∈ze cs i++Af cs i,q∈cs:=by
 have b:cs.getD i (0,0)∈cs:=by rw[gD,gE h];exact List.getElem_mem h
 have c:cs.getD ((i+1)%cs.length) (0,0)∈cs:=by
  have:(i+1)%cs.length<cs.length:=Nat.mod_lt _ oM;rw[gD,gE this];exact List.getElem_mem this
 intro q a;unfold ze Af at a;rcases List.mem_append.1 a with a|a
 ·split at a
  ·simp at a;rcases a with rfl|rfl
   ·simpa using b
   ·simpa using c
  ·simp at a
 ·split at a
  ·simp at a;rcases a with rfl|rfl
   ·simpa using b
   ·simpa using c
  ·simp at a
def yq{k:Int}{cs:LP}(h:xg k cs){i:Nat}(c:i<=cs.length):xg k (Tc cs i)/\xg k (pe cs i):=by
 refine⟨fun q a=>?_,fun q a=>?_⟩
 ·obtain⟨j,b,a⟩:=List.mem_flatMap.1 a;exact h q (jC (by have:=List.mem_range.1 b;omega) q (List.mem_append_left _ a))
 ·obtain⟨j,b,a⟩:=List.mem_flatMap.1 a;exact h q (jC (by have:=List.mem_range.1 b;omega) q (List.mem_append_right _ a))
def BA(cs:LP)(i:Nat):(Tc cs i).length<=2*i/\(pe cs i).length<=2*i:=by
 induction i with
 | zero=>exact⟨by simp[Tc],by simp[pe]⟩
 | succ i c =>
  rw[Eu,Vt,lA,lA];have a:(ze cs i).length<=2:=by unfold ze;split<;>simp
  have b:(Af cs i).length<=2:=by unfold Af;split<;>simp
  omega
def kd(a:LP):LP:=Na (Ye a)
def Ea(p:Pl):LP:=kd (Tc (Ga p) (Ga p).length)
def Pb(p:Pl):LP:=kd (pe (Ga p) (Ga p).length)
def Je(p:Pl)(v vl vu:Oa):Array Oa:=#[.string p.name,v,N C p.depth,N C p.density,N C p.gx,N C p.gz,N C p.way,N C p.ax,N C p.az,N .u8 p.skin,vl,vu]
def Qr:Array Oa:=#[.string ⟨#[]⟩,O H 0 0,N C 0,N C 0,N C 0,N C 0,N C 0,N C 0,N C 0,N .u8 0,O H 0 0,O H 0 0]
def Bm(w:I)(p:Pl)(v:Oa)(e:Ending)(w':I):Prop:=∃vl vu,e=.returned (Od (Je p v vl vu))/\Ja w' vl (Ea p)/\Ja w' vu (Pb p)/\Ba w w'
def Di(w:I)(base:Nat)(p:Pl)(v:Oa)(L U:LP)(vl vu:Oa)(W:I):Prop:=
 Ba w W/\w.heap.size+1+1<base/\base<=W.heap.size/\W.heap[w.heap.size]?=V (Ob (Dd p v) 47 (0,0))/\W.heap[w.heap.size+1]?=V (Ob Qr 128 (0,0))/\
 W.heap[w.heap.size+1+1]?=V (Ob (Je p v vl vu) 128 (0,0))/\Ka 43 2 W base vl (L.map pc)/\Ka 43 2 W base vu (U.map pc)/\∀j,vl.ownBlock=V j->vu.ownBlock≠V j
section
variable {w W w':I} {base:Nat} {p:Pl} {v vl vu vl' vu':Oa} {L U L' U':LP}
def Di.ext(h:Di w base p v L U vl vu W)(k:Ba W w'):Di w base p v L U vl vu w':=by obtain⟨a,b,c,d,e,h6,f,g,i⟩:=h;exact⟨a.trans k,b,nT c k.size,k.e d,k.e e,k.e h6,f.ext k,g.ext k,i⟩
def Di.low(h:Di w base p v L U vl vu W)(b:W.grownBy w' vl.ownBlock)(r:Ka 43 2 w' base vl (L'.map pc)):Di w base p v L' U vl vu w':=by
 obtain⟨l,m,c,n,o,h6,d,q,f⟩:=h;have a:∀k,k<base->V k≠vl.ownBlock:=fun k g e=>by have:=(d.lt k e.symm).1;omega
 refine⟨l.y (Mh b c (fun k g=>(d.lt k g).1)) oM,m,nT c b.size,li b n (a _ oM),li b o (a _ oM),li b h6 (a _ oM),r,q.grown b ?_,f⟩;cases e:vu.ownBlock with
 | none=>exact .inl rfl
 | some j=>exact .inr (fun i=>f j i.symm e)
def Di.up(h:Di w base p v L U vl vu W)(b:W.grownBy w' vu.ownBlock)(r:Ka 43 2 w' base vu (U'.map pc)):Di w base p v L U' vl vu w':=by
 obtain⟨l,m,c,n,o,h6,q,d,f⟩:=h;have a:∀k,k<base->V k≠vu.ownBlock:=fun k g e=>by have:=(d.lt k e.symm).1;omega
 refine⟨l.y (Mh b c (fun k g=>(d.lt k g).1)) oM,m,nT c b.size,li b n (a _ oM),li b o (a _ oM),li b h6 (a _ oM),q.grown b ?_,r,f⟩;cases e:vl.ownBlock with
 | none=>exact .inl rfl
 | some j=>exact .inr (fun i=>f j e i.symm)
def mM{W:I}{b:Nat}(h:W.heap[b]?=V (Ob (Je p v vl vu) 128 (0,0)))(u:Oa):(W.setCell ⟨b,10,H⟩ u).heap[b]?=V (Ob (Je p v u vu) 128 (0,0)):=by simp[World.setCell,Array.getElem?_modify,h,Je]
def jM{W:I}{b:Nat}(h:W.heap[b]?=V (Ob (Je p v vl vu) 128 (0,0)))(u:Oa):(W.setCell ⟨b,11,H⟩ u).heap[b]?=V (Ob (Je p v vl u) 128 (0,0)):=by simp[World.setCell,Array.getElem?_modify,h,Je]
def Di.setLow(h:Di w base p v L U vl vu W)(b:W.grownBy w' vl.ownBlock)(f:Ka 43 2 w' base vl' (L'.map pc))(K:vl'.ownBlock=vl.ownBlock\/vl'.ownBlock=V W.heap.size):Di w base p v L' U vl' vu (w'.setCell ⟨w.heap.size+1+1,10,H⟩ vl'):=by
 obtain⟨s,t,i,x,y,h6,l,m,n⟩:=h;have a:∀k,k<base->V k≠vl.ownBlock:=fun k o e=>by have:=(l.lt k e.symm).1;omega
 have z:=Mh b i (fun k o=>(l.lt k o).1);have d:∀{u:Oa}{q:List (List Oa)}{W:I},Ka 43 2 W base u q->u.ownBlock≠V (w.heap.size+1+1):=fun f e=>by have:=(f.lt _ e).1;omega
 have c:Ka 43 2 w' base vu (U.map pc):=m.grown b (by
  cases e:vu.ownBlock with
  | none=>exact .inl rfl
  | some j=>exact .inr (fun r=>n j r.symm e))
 refine⟨(s.y z oM).set dO _,t,by rw[Bg];exact nT i b.size,?_,?_,mM (li b h6 (a _ oM)) _,f.setOther (d f) _,c.setOther (d c) _,?_⟩
 ·rw[bS _ _ _ _ dO];exact li b x (a _ oM)
 ·rw[bS _ _ _ _ dO];exact li b y (a _ oM)
 ·intro j g e;rcases K with h|h
  ·exact n j (h▸g) e
  ·rw[h]at g;cases g;have:=(m.lt _ e).2;omega
def Di.setUp(h:Di w base p v L U vl vu W)(b:W.grownBy w' vu.ownBlock)(f:Ka 43 2 w' base vu' (U'.map pc))(K:vu'.ownBlock=vu.ownBlock\/vu'.ownBlock=V W.heap.size):Di w base p v L U' vl vu' (w'.setCell ⟨w.heap.size+1+1,11,H⟩ vu'):=by
 obtain⟨s,t,g,x,y,h6,i,l,m⟩:=h;have a:∀k,k<base->V k≠vu.ownBlock:=fun k o e=>by have:=(l.lt k e.symm).1;omega
 have z:=Mh b g (fun k o=>(l.lt k o).1);have d:∀{u:Oa}{q:List (List Oa)}{W:I},Ka 43 2 W base u q->u.ownBlock≠V (w.heap.size+1+1):=fun f e=>by have:=(f.lt _ e).1;omega
 have c:Ka 43 2 w' base vl (L.map pc):=i.grown b (by
  cases e:vl.ownBlock with
  | none=>exact .inl rfl
  | some j=>exact .inr (fun r=>m j e r.symm))
 refine⟨(s.y z oM).set dO _,t,by rw[Bg];exact nT g b.size,?_,?_,jM (li b h6 (a _ oM)) _,c.setOther (d c) _,f.setOther (d f) _,?_⟩
 ·rw[bS _ _ _ _ dO];exact li b x (a _ oM)
 ·rw[bS _ _ _ _ dO];exact li b y (a _ oM)
 ·intro j n e;rcases K with h|h
  ·exact m j n (h▸e)
  ·rw[h]at e;cases e;have:=(i.lt _ n).2;omega
def UG{W:I}{b:Nat}(h:W.heap[b]?=V (Ob (Je p v vl vu) 128 (0,0))):W.cell? ⟨b,0,H⟩=V (.string p.name)/\W.cell? ⟨b,1,H⟩=V v/\W.cell? ⟨b,2,H⟩=V (N C p.depth)/\W.cell? ⟨b,3,H⟩=V (N C p.density)/\W.cell? ⟨b,4,H⟩=V (N C p.gx)/\W.cell? ⟨b,5,H⟩=V (N C p.gz)/\W.cell? ⟨b,6,H⟩=V (N C p.way)/\W.cell? ⟨b,7,H⟩=V (N C p.ax)/\W.cell? ⟨b,8,H⟩=V (N C p.az)/\W.cell? ⟨b,9,H⟩=V (N .u8 p.skin)/\W.cell? ⟨b,10,H⟩=V vl/\W.cell? ⟨b,11,H⟩=V vu/\(∀i,W.frozen? ⟨b,i,H⟩=false)/\b<W.heap.size:=
 ⟨Ca h (i:=0) rfl,Ca h (i:=1) rfl,Ca h (i:=2) rfl,Ca h (i:=3) rfl,Ca h (i:=4) rfl,Ca h (i:=5) rfl,Ca h (i:=6) rfl,Ca h (i:=7) rfl,Ca h (i:=8) rfl,Ca h (i:=9) rfl,Ca h (i:=10) rfl,Ca h (i:=11) rfl,Ua h,Gb h⟩
def VG{W:I}{b:Nat}(h:W.heap[b]?=V (Ob Qr 128 (0,0))):W.cell? ⟨b,0,H⟩=V (.string ⟨#[]⟩)/\W.cell? ⟨b,1,H⟩=V (O H 0 0)/\W.cell? ⟨b,2,H⟩=V (N C 0)/\W.cell? ⟨b,3,H⟩=V (N C 0)/\W.cell? ⟨b,4,H⟩=V (N C 0)/\W.cell? ⟨b,5,H⟩=V (N C 0)/\W.cell? ⟨b,6,H⟩=V (N C 0)/\W.cell? ⟨b,7,H⟩=V (N C 0)/\W.cell? ⟨b,8,H⟩=V (N C 0)/\W.cell? ⟨b,9,H⟩=V (N .u8 0)/\W.cell? ⟨b,10,H⟩=V (O H 0 0)/\W.cell? ⟨b,11,H⟩=V (O H 0 0)/\(∀i,W.frozen? ⟨b,i,H⟩=false)/\b<W.heap.size:=
 ⟨Ca h (i:=0) rfl,Ca h (i:=1) rfl,Ca h (i:=2) rfl,Ca h (i:=3) rfl,Ca h (i:=4) rfl,Ca h (i:=5) rfl,Ca h (i:=6) rfl,Ca h (i:=7) rfl,Ca h (i:=8) rfl,Ca h (i:=9) rfl,Ca h (i:=10) rfl,Ca h (i:=11) rfl,Ua h,Gb h⟩
def Gl(w:I)(base:Nat)(p:Pl)(v:Oa)(L U:LP)(vl vu a b:Oa)(W:I):Prop:=
 Ba w W/\w.heap.size+1+1<base/\base<=W.heap.size/\W.heap[w.heap.size+1]?=V (Ob Qr 128 (0,0))/\
 W.heap[w.heap.size+1+1]?=V (Ob (Je p v a b) 128 (0,0))/\Ka 43 2 W base vl (L.map pc)/\Ka 43 2 W base vu (U.map pc)/\∀j,vl.ownBlock=V j->vu.ownBlock≠V j
def Di.toX(h:Di w base p v L U vl vu W):Gl w base p v L U vl vu vl vu W:=by obtain⟨a,b,c,i,d,h6,e,f,g⟩:=h;exact⟨a,b,c,d,h6,e,f,g⟩
def Gl.ext{a b:Oa}(h:Gl w base p v L U vl vu a b W)(k:Ba W w'):Gl w base p v L U vl vu a b w':=by obtain⟨c,d,e,f,h6,g,i,j⟩:=h;exact⟨c.trans k,d,nT e k.size,k.e f,k.e h6,g.ext k,i.ext k,j⟩
def Gl.low{c d:Oa}(h:Gl w base p v L U vl vu c d W)(a:W.grownBy w' vl.ownBlock)(u:Ka 43 2 w' base vl' (L'.map pc))(s:vl'.ownBlock=vl.ownBlock):Gl w base p v L' U vl' vu c d w':=by
 obtain⟨n,o,f,q,h6,g,r,i⟩:=h;have b:∀k,k<base->V k≠vl.ownBlock:=fun k l e=>by have:=(g.lt k e.symm).1;omega
 refine⟨n.y (Mh a f (fun k l=>(g.lt k l).1)) oM,o,nT f a.size,li a q (b _ oM),li a h6 (b _ oM),u,r.grown a ?_,fun j t=>i j (s▸t)⟩;cases e:vu.ownBlock with
 | none=>exact .inl rfl
 | some j=>exact .inr (fun m=>i j m.symm e)
def Gl.up{c d:Oa}(h:Gl w base p v L U vl vu c d W)(a:W.grownBy w' vu.ownBlock)(u:Ka 43 2 w' base vu' (U'.map pc))(s:vu'.ownBlock=vu.ownBlock):Gl w base p v L U' vl vu' c d w':=by
 obtain⟨n,o,f,q,h6,r,g,i⟩:=h;have b:∀k,k<base->V k≠vu.ownBlock:=fun k l e=>by have:=(g.lt k e.symm).1;omega
 refine⟨n.y (Mh a f (fun k l=>(g.lt k l).1)) oM,o,nT f a.size,li a q (b _ oM),li a h6 (b _ oM),r.grown a ?_,u,fun j t=>s▸i j t⟩;cases e:vl.ownBlock with
 | none=>exact .inl rfl
 | some j=>exact .inr (fun m=>i j e m.symm)
end
def qi(p q r:Int×Int):Int:=(q.1-p.1)*(r.2-p.2)-(q.2-p.2)*(r.1-p.1)
def lK(p q r:Int×Int):qi p q r=Ke p q r:=by unfold qi Ke;grind
def Pa(l:LP)(i:Nat):Int×Int:=l.getD i (0,0)
def Ai(l:LP)(i k:Nat):Bool:=(k==i) || ((k==(i+1)%l.length) || decide (0<qi (Pa l i) (Pa l ((i+1)%l.length)) (Pa l k)))
def ij(l:LP)(i:Nat):Bool:=(List.range l.length).all (Ai l i)
def Lf(l:LP):Bool:=Ta l.length 3 12&&(List.range l.length).all (ij l)
def Ii{a n:Nat}(h:a<2*n):a%n=if a<n then a else a-n:=by
 split
 ·exact Nat.mod_eq_of_lt (by assumption)
 ·rw[Nat.mod_eq_sub_mod oM];exact Nat.mod_eq_of_lt oM
def Wq(l:LP)(i:Nat):Cf l (i:Int)=Pa l (i%l.length):=by
 unfold Cf Pa;have e:((i:Int)+(l.length:Int))%(l.length:Int)=((i%l.length:Nat):Int):=by
  rw[Int.add_emod_right];rfl
 rw[e];rfl
def iJ(l:LP)(i:Nat)(h:0<l.length):Cf l ((i:Int)-1)=Pa l ((i+l.length-1)%l.length):=by
 unfold Cf Pa;have e:((i:Int)-1+(l.length:Int))%(l.length:Int)=(((i+l.length-1)%l.length:Nat):Int):=by
  rw[show (i:Int)-1+(l.length:Int)=((i+l.length-1:Nat):Int) by omega];rfl
 rw[e];rfl
def VA(u v c:Int×Int):Ke u v c=Ke c u v:=by unfold Ke;grind
def sJ(l:LP):Lf l=ub l:=by
 unfold Lf ub;cases hw:Ta l.length 3 12 with
 | false=>rfl
 |true=>
  rw[Bool.true_and,Bool.true_and,Bool.eq_iff_iff,List.all_eq_true,List.all_eq_true];obtain⟨n,g⟩:=gX l.length;have h3:3<=n:=by
   unfold Ta at hw;simp at hw;omega
  have r:∀i k,Ai l i k=true ↔ (k=i\/k=(i+1)%n\/0<Ke (Pa l i) (Pa l ((i+1)%n)) (Pa l k)):=fun i k=>by
   unfold Ai;rw[g,lK];simp
  have y:∀i,kj l i=true ↔ 0<Ke (Pa l ((i+n-1)%n)) (Pa l (i%n)) (Pa l ((i+1)%n)):=fun i=>by
   unfold kj;rw[iJ l i oM,Wq,show (i:Int)+1=((i+1:Nat):Int) by omega,Wq,g,decide_eq_true_eq]
  have z:∀i k,jj l i k=true ↔ 0<Ke (Pa l (i%n)) (Pa l ((i+1)%n)) (Pa l ((i+k)%n)):=fun i k=>by
   unfold jj;rw[Wq,show (i:Int)+1=((i+1:Nat):Int) by omega,Wq,show (i:Int)+(k:Int)=((i+k:Nat):Int) by omega,Wq,g,decide_eq_true_eq]
  constructor
  ·intro h i m;have f:i<n:=by rw[<-g];exact List.mem_range.1 m
   have j:=h i m;unfold ij at j;rw[List.all_eq_true]at j;have u:∀k,k<n->k≠i->k≠(i+1)%n->0<Ke (Pa l i) (Pa l ((i+1)%n)) (Pa l k):=fun k o a b=>by
    have:=(r i k).1 (j k (List.mem_range.2 (by rw[g];exact o)));rcases this with c|c|c
    ·exact absurd c a
    ·exact absurd c b
    ·exact c
   unfold mh;rw[Bool.and_eq_true];constructor
   ·rw[y,Nat.mod_eq_of_lt f,<-VA];refine u _ (Nat.mod_lt _ oM) ?_ ?_<;>rw[Ii oM]
    ·split<;>omega
    ·rw[Ii (show i+1<2*n by omega)];split<;>split<;>omega
   ·rw[List.all_eq_true];intro k o;rw[List.mem_range]at o;by_cases q:k<2
    ·simp[q]
    ·have:decide (k<2)=false:=decide_eq_false q;rw[this,Bool.false_or,z,Nat.mod_eq_of_lt f];refine u _ (Nat.mod_lt _ oM) ?_ ?_<;>rw[Ii (show i+k<2*n by omega)]
     ·split<;>omega
     ·rw[Ii (show i+1<2*n by omega)];split<;>split<;>omega
  ·intro h i m;have f:i<n:=by rw[<-g];exact List.mem_range.1 m
   have j:=h i m;unfold mh at j;rw[Bool.and_eq_true,y,List.all_eq_true]at j;obtain⟨t,K⟩:=j;unfold ij;rw[List.all_eq_true];intro k o;have T:k<n:=by rw[<-g];exact List.mem_range.1 o
   rw[r];by_cases a:k=i
   ·exact .inl a
   ·by_cases b:k=(i+1)%n
    ·exact .inr (.inl b)
    ·refine .inr (.inr ?_);rw[Ii (show i+1<2*n by omega)]at b;by_cases c:k=(i+n-1)%n
     ·rw[Nat.mod_eq_of_lt f,<-VA,<-c]at t;exact t
     ·rw[Ii (show i+n-1<2*n by omega)]at c;obtain⟨d,x⟩:∃d,d=if i<=k then k-i else k+n-i:=⟨_,rfl⟩;have s:2<=d/\d<n-1:=by
       split at x<;>split at b<;>split at c<;>omega
      have e:(i+d)%n=k:=by
       rw[Ii oM];split at x<;>split<;>omega
      have:=K d (List.mem_range.2 (by rw[g];exact s.2));have R:decide (d<2)=false:=decide_eq_false oM;rw[R,Bool.false_or,z,Nat.mod_eq_of_lt f,e]at this;exact this
def QG{l:LP}(h:l≠[]):l.foldl (fun o q=>(min o.1 q.1,min o.2 q.2)) (Pa l 0)=Va l:=by
 cases l with
 | nil=>exact absurd rfl h
 | cons p a =>
  show List.foldl _ (min p.1 p.1,min p.2 p.2) a=Va (p::a);rw[Int.min_self,Int.min_self];rfl
def Zc(l:LP):Nat->Nat
 | 0=>0
 | i+1=>if (Pa l i).2<(Pa l (Zc l i)).2\/((Pa l i).2=(Pa l (Zc l i)).2/\(Pa l i).1<(Pa l (Zc l i)).1)then i else Zc l i
def Uj(a b:Int×Int):Prop:=a.2<b.2\/(a.2=b.2/\a.1<b.1)
def zC(q m:Int×Int):Sk q m<0 ↔ Uj q m:=by
 unfold Sk Uj Bj Lc;by_cases a:q.2<m.2
 ·simp[a]
 ·by_cases b:m.2<q.2
  ·simp[a,b]
   try omega
  ·have e:q.2=m.2:=oM;simp only[e,Int.lt_irrefl,if_false];by_cases c:q.1<m.1
   ·simp[c,Bj]
   ·by_cases d:m.1<q.1
    ·simp[c,d,Bj]
     try omega
    ·simp[c,d,Bj]
def Gv(l:LP):∀n,n+1<=l.length->Zc l (n+1)<n+1/\Pa l (Zc l (n+1))=pf (l.take (n+1))/\(∀j,j<n+1->¬Uj (Pa l j) (Pa l (Zc l (n+1))))/\∀j,j<Zc l (n+1)->Pa l j≠Pa l (Zc l (n+1)):=by
 intro n;induction n with
 |zero=>
  intro h;have e:Zc l 1=0:=by unfold Zc;split<;>rfl
  rw[e];obtain⟨p,t,rfl⟩:∃p t,l=p::t:=by
   cases l with
   | nil=>simp at h
   | cons p t=>exact⟨p,t,rfl⟩
  refine⟨by omega,rfl,fun j b=>?_,fun j b=>absurd b oM⟩;obtain rfl:j=0:=oM;unfold Uj;omega
 | succ n u =>
  intro h;obtain⟨q,k,g,m⟩:=u oM;have s:l[n+1]?=V (Pa l (n+1)):=by
   unfold Pa;rw[gD,gE oM];rfl
  have i:l.take (n+1)≠[]:=by
   intro e;have:=congrArg List.length e;rw[List.length_take,List.length_nil]at this;omega
  have r:pf (l.take (n+2))=Uh (pf (l.take (n+1))) (Pa l (n+1)):=by
   rw[List.take_add_one,s];exact MC _ _ i
  obtain⟨f,o⟩:=gX (Zc l (n+1));rw[o]at q k g m;rw[r,<-k];unfold Uh;have d:Zc l (n+1+1)=if (Pa l (n+1)).2<(Pa l (Zc l (n+1))).2\/((Pa l (n+1)).2=(Pa l (Zc l (n+1))).2/\(Pa l (n+1)).1<(Pa l (Zc l (n+1))).1)then n+1 else Zc l (n+1):=rfl;rw[o]at d;by_cases c:Uj (Pa l (n+1)) (Pa l f)
  ·rw[if_pos ((zC _ _).2 c)];rw[if_pos (show (Pa l (n+1)).2<(Pa l f).2\/((Pa l (n+1)).2=(Pa l f).2/\(Pa l (n+1)).1<(Pa l f).1)from c)]at d;rw[d];refine⟨by omega,rfl,fun j b=>?_,fun j b e=>?_⟩
   ·by_cases a:j=n+1
    ·subst a;unfold Uj;omega
    ·have:=g j oM;unfold Uj at *;omega
   ·have:=g j oM;rw[e]at this;exact this c
  ·rw[if_neg (fun h=>c ((zC _ _).1 h))];rw[if_neg (show ¬((Pa l (n+1)).2<(Pa l f).2\/((Pa l (n+1)).2=(Pa l f).2/\(Pa l (n+1)).1<(Pa l f).1))from c)]at d;rw[d];refine⟨by omega,rfl,fun j b=>?_,m⟩;by_cases a:j=n+1
   ·subst a;exact c
   ·exact g j oM
def Ny{l:LP}(h:l≠[]):Zc l l.length=Fg l:=by
 have m:=List.length_pos_iff.2 h;obtain⟨n,k⟩:∃n,l.length=n+1:=⟨l.length-1,by omega⟩;obtain⟨d,b,o,c⟩:=Gv l n oM;rw[k];rw[show l.take (n+1)=l from lT oM]at b;obtain⟨f,i⟩:=gX (Zc l (n+1));rw[i]at d b c ⊢;have e:∀j,j<l.length->l[j]?=V (Pa l j):=fun j a=>by
  unfold Pa;rw[gD,gE a];rfl
 have g:∀j (a:j<l.length),l[j]=Pa l j:=fun j a=>by
  have:=e j a;rw[gE a]at this;exact Option.some.inj this
 have:l.findIdx? (fun p=>pf l==p)=V f:=by
  rw[List.findIdx?_eq_some_iff_getElem];refine⟨by omega,by rw[g f oM,b];simp,fun j a=>?_⟩;rw[g j oM,<-b];simpa using fun e=>c j a e.symm
 unfold Fg Pe;rw[this];rfl
def mI(l:LP){m:Nat}(h:m<l.length):(List.range l.length).map (fun i=>Pa l ((m+i)%l.length))=l.drop m++l.take m:=by
 apply List.ext_getElem
 ·rw[lL,List.length_range,lA,List.length_drop,List.length_take];omega
 ·intro i a b;rw[List.getElem_map,List.getElem_range];rw[lL,List.length_range]at a;unfold Pa;rw[Ii oM,gD];by_cases c:m+i<l.length
  ·rw[if_pos c,gE c,List.getElem_append_left (by rw[List.length_drop];omega),List.getElem_drop];rfl
  ·rw[if_neg c,gE oM,List.getElem_append_right (by rw[List.length_drop];omega),List.getElem_take];have e:m+i-l.length=i-(l.drop m).length:=by rw[List.length_drop];omega
   simp only[e];rfl
def Zg(l:LP):LP:=(List.range l.length).map fun i=>((Pa l ((Zc l l.length+i)%l.length)).1-(Va l).1,(Pa l ((Zc l l.length+i)%l.length)).2-(Va l).2)
def lI(l:LP):Zg l=Sc l:=by
 by_cases h:l=[]
 ·subst h;rfl
 ·unfold Zg Sc;rw[Ny h,<-mI l (qt h).2,List.map_map];rfl
def Ze:Nat->Int×Int->Int×Int
 | 0,p=>p
 | n+1,p=>(-(Ze n p).2,(Ze n p).1)
def tf(way:Int)(p:Int×Int):Int×Int:=Ze (way%4).toNat (if 4<=way then (-p.1,p.2)else p)
def Ey(way:Int)(p:Int×Int):tf way p=Wc way p:=by
 unfold tf Wc;obtain⟨q,a⟩:=gX ((if 4<=way then (-p.1,p.2)else p));have e:(if 3<way then (-p.1,p.2)else p)=q:=by
  rw[<-a];by_cases h:4<=way
  ·rw[if_pos h,if_pos oM]
  ·rw[if_neg h,if_neg oM]
 rw[a,e];have h:way%4=0\/way%4=1\/way%4=2\/way%4=3:=oM;rcases h with h|h|h|h<;>rw[h]
 ·rfl
 ·rfl
 ·show (-(Ze 1 q).2,(Ze 1 q).1)=_;rfl
 ·show (-(Ze 2 q).2,(Ze 2 q).1)=_;simp[Ze]
def Kg(way:Int)(l:LP):LP:=Zg ((List.range l.length).map fun i=>tf way (Pa l (if 4<=way then l.length-1-i else i)))
def FI(l:LP):(List.range l.length).map (Pa l)=l:=by
 apply List.ext_getElem
 ·simp
 ·intro i b a;rw[List.getElem_map,List.getElem_range];unfold Pa;rw[gD,gE a];rfl
def EI(l:LP):(List.range l.length).map (fun i=>Pa l (l.length-1-i))=l.reverse:=by
 apply List.ext_getElem
 ·simp
 ·intro i b a;rw[List.length_reverse]at a;rw[List.getElem_map,List.getElem_range,List.getElem_reverse];unfold Pa;rw[gD,gE oM];rfl
def II(way:Int)(l:LP):Kg way l=Fc way l:=by
 unfold Kg Fc;rw[lI];by_cases h:4<=way
 ·rw[if_pos (show 3<way by omega),<-List.map_reverse,<-EI,List.map_map]
  congr 1
  apply List.map_congr_left;intro i _;rw[if_pos h,Ey];rfl
 ·rw[if_neg (show ¬3<way by omega)]
  conv=>rhs;rw[<-FI l,List.map_map]
  congr 1
  apply List.map_congr_left;intro i _;rw[if_neg h,Ey];rfl
def jm(p:Pl):LP:=(Kg p.way p.shape).map fun q=>(q.1+p.ax,q.2+p.az)
def qJ(p:Pl):jm p=Ga p:=by unfold jm Ga;rw[II]
def vh(l:LP):Bool:=(l.all fun p=>Ta p.1 0 2000&&Ta p.2 0 2000)&&(Lf l&&(decide ((Va l).1=0)&&(decide ((Va l).2=0)&&decide (Zc l l.length=0))))
def GA(l:LP):vh l=ve l:=by
 unfold vh ve;rw[sJ];have g:(l.all fun p=>Ta p.1 0 2000&&Ta p.2 0 2000)=!(l.any Xe):=by
  rw[List.not_any_eq_all_not]
  congr 1
  funext p
  unfold Xe;cases Ta p.1 0 2000<;>cases Ta p.2 0 2000<;>rfl
 rw[g];cases l.any Xe with
 | true=>rfl
 |false=>
  cases hc:ub l with
  | false=>rfl
  |true=>
   have a:l≠[]:=by
    intro e;subst e;simp[ub,Ta]at hc
   have i:(Va l==(0,0))=(decide ((Va l).1=0)&&decide ((Va l).2=0)):=by
    rw[Bool.eq_iff_iff];simp[Prod.ext_iff]
   have k:(pf l==l.getD 0 (0,0))=decide (Zc l l.length=0):=by
    rw[Ny a,Bool.eq_iff_iff,beq_iff_eq,decide_eq_true_eq];obtain⟨b,q⟩:=qt a;have m:=List.length_pos_iff.2 a;(have f:l.getD 0 (0,0)=l[0]:=by rw[gD,gE m];rfl);unfold Pe at b;cases hf:l.findIdx? (fun p=>pf l==p)with
    |none=>
     rw[hf]at b;simp at b
     try omega
    | some j =>
     rw[hf]at b;(have n:Fg l=j:=by simp at b;omega);rw[n];rw[List.findIdx?_eq_some_iff_getElem]at hf;obtain⟨o,c,d⟩:=hf;constructor
     ·intro h;cases j with
      | zero=>rfl
      | succ j =>
       have:=d 0 oM;rw[<-f,h]at this;simp at this
     ·rintro rfl;rw[f];simpa using c
   rw[i,k];cases decide ((Va l).1=0)<;>cases decide ((Va l).2=0)<;>rfl
def Ud(cs:LP)(u v:Int×Int):Prop:=(∃A B,cs=A++u::v::B)\/(∃M,cs=v::M++[u])
structure Qf (cs:LP):Prop where
 nd:cs.Nodup
 three:3<=cs.length
 left:∀u v,Ud cs u v->∀c∈cs,c≠u->c≠v->0<Ke u v c
def Ud.mem{cs:LP}{u v:Int×Int}(h:Ud cs u v):u∈cs/\v∈cs:=by rcases h with ⟨A,B,rfl⟩|⟨M,rfl⟩<;>simp
def Ud.rot{P Q:LP}{u v:Int×Int}(h:Ud (Q++P) u v)(k:2<=(P++Q).length):Ud (P++Q) u v:=by
 rcases h with ⟨A,B,h⟩|⟨M,h⟩
 ·rcases List.append_eq_append_iff.1 h with ⟨X,b,a⟩|⟨X,b,a⟩
  ·
   subst b;exact .inl ⟨X,B++Q,by rw[a];simp⟩
  ·
   cases X with
   |nil=>
    simp at b a;subst b;exact .inl ⟨[],B++Q,by rw[<-a];simp⟩
   | cons x X =>
    simp at a;obtain⟨rfl,a⟩:=a;cases X with
    |nil=>
     simp at a;subst b a;exact .inr ⟨B++A,by simp⟩
    | cons y X =>
     simp at a;obtain⟨rfl,rfl⟩:=a;subst b;exact .inl ⟨P++A,X,by simp⟩
 ·
  cases P with
  | nil=>simp at h;exact .inr ⟨M,by simpa using h⟩
  | cons p P =>
   cases Q with
   | nil=>simp at h;exact .inr ⟨M,by simpa using h⟩
   | cons q Q =>
    (have i:q=v:=by simp at h;exact h.1);have d:=congrArg List.getLast? h;rw[List.getLast?_append,List.getLast?_append]at d;have g:(p::P).getLast?=V u:=by
     cases hh:(p::P).getLast? with
     | none=>simp at hh
     | some z=>rw[hh]at d;simpa using d
    obtain⟨c,f⟩:∃c,p::P=c++[u]:=⟨(p::P).dropLast,by
     have e:=List.getLast?_eq_some_iff.1 g;obtain⟨l,j⟩:=e;rw[j];simp⟩
    rw[f];subst i;exact .inl ⟨c,Q,by simp⟩
def Ud.rev{cs:LP}{u v:Int×Int}(h:Ud cs.reverse u v):Ud cs v u:=by
 rcases h with ⟨A,B,h⟩|⟨M,h⟩
 ·refine .inl ⟨B.reverse,A.reverse,?_⟩;rw[<-List.reverse_reverse cs,h];simp
 ·refine .inr ⟨M.reverse,?_⟩;rw[<-List.reverse_reverse cs,h];simp
def Ud.map{cs:LP}{f:Int×Int->Int×Int}{u v:Int×Int}(h:Ud (cs.map f) u v):∃u' v',u=f u'/\v=f v'/\Ud cs u' v':=by
 rcases h with ⟨A,B,h⟩|⟨M,h⟩
 ·obtain⟨i,X,e,n,c⟩:=List.map_eq_append_iff.1 h;obtain⟨u',m,a,g,d⟩:=List.map_eq_cons_iff.1 c;obtain⟨v',B',b,hv,o⟩:=List.map_eq_cons_iff.1 d;exact⟨u',v',g.symm,hv.symm,.inl ⟨i,B',by rw[e,a,b]⟩⟩
 ·rw[List.cons_append]at h;obtain⟨v',X,e,hv,c⟩:=List.map_eq_cons_iff.1 h;obtain⟨j,Y,a,q,k⟩:=List.map_eq_append_iff.1 c;obtain⟨u',Z,b,g,l⟩:=List.map_eq_cons_iff.1 k;have:Z=[]:=List.map_eq_nil_iff.1 l;subst this;exact⟨u',v',g.symm,hv.symm,.inr ⟨j,by rw[e,a,b];simp⟩⟩
def Qf.rot{P Q:LP}(h:Qf (P++Q)):Qf (Q++P):=by
 have e:∀x,x∈Q++P->x∈P++Q:=fun x a=>by
  rcases List.mem_append.1 a with a|a
  ·exact List.mem_append.2 (.inr a)
  ·exact List.mem_append.2 (.inl a)
 have g:=h.three;refine⟨(List.perm_append_comm.nodup_iff).1 h.nd,by rw[lA]at *;omega,fun u v d c b f hv=>h.left u v (d.rot oM) c (e c b) f hv⟩
def Qf.map{cs:LP}(h:Qf cs)(f:Int×Int->Int×Int)(m:∀u v c,Ke (f u) (f v) (f c)=Ke u v c)(n:∀x y,f x=f y->x=y):Qf (cs.map f):=by
 refine⟨?_,by rw[lL];exact h.three,fun u v l c k o hv=>?_⟩
 ·exact List.Pairwise.map f (fun a b d e=>d (n a b e)) h.nd
 ·obtain⟨q,r,rfl,rfl,i⟩:=l.map;obtain⟨j,g,rfl⟩:=List.mem_map.1 k;rw[m];exact h.left q r i j g (fun e=>o (by rw[e])) (fun e=>hv (by rw[e]))
def Qf.flip{cs:LP}(h:Qf cs)(f:Int×Int->Int×Int)(m:∀u v c,Ke (f u) (f v) (f c)=Ke v u c)(n:∀x y,f x=f y->x=y):Qf (cs.map f).reverse:=by
 refine⟨?_,by rw[List.length_reverse,lL];exact h.three,fun u v l c k o hv=>?_⟩
 ·exact(List.reverse_perm _).nodup_iff.2 (List.Pairwise.map f (fun a b d e=>d (n a b e)) h.nd)
 ·obtain⟨r,q,rfl,rfl,i⟩:=(Ud.rev l).map;obtain⟨j,g,rfl⟩:=List.mem_map.1 (List.mem_reverse.1 k);rw[m];exact h.left r q i j g (fun e=>hv (by rw[e])) (fun e=>o (by rw[e]))
def vC(W:I)(x z b c:Int)(T:TypeId):∀(j:Nat) u,[pc (x,z),pc (b,c)].flatten[j]?=V u->(W.alloc (Ob #[N C x,N C z,N C b,N C c] T)).cell? ((⟨W.heap.size,0,H⟩:Addr).add j)=V u:=by
 intro j u a
 match j,a with
 | 0,a=>simp[pc]at a;subst a;simp[Addr.add]
 | 1,a=>simp[pc]at a;subst a;simp[Addr.add]
 | 2,a=>simp[pc]at a;subst a;simp[Addr.add]
 | 3,a=>simp[pc]at a;subst a;simp[Addr.add]
 | j+4,a=>simp[pc]at a
def EA(x z a b:Int):∀u∈[pc (x,z),pc (a,b)].flatten,u.oneCell'=true:=Aq (ps:=[(x,z),(a,b)])
def kR(w:I)(base:Nat)(p:Pl)(v:Oa)(cs:LP)(b:Oa)(g:Nat)(a:Oa)(W:I):Prop:=
 ∃(i:Nat)(vl vu:Oa),i<=cs.length/\a=N C i/\g=cs.length-i/\Di w base p v (Tc cs i) (pe cs i) vl vu W/\Ka 43 2 W (w.heap.size+1+1+1) b (cs.map pc)
def OA{W w':I}{base s:Nat}{a v:Oa}{cs:List (List Oa)}{L:List (List Oa)}(h:Ka 43 2 W (s+1) a cs)(c:∀j,a.ownBlock=V j->j<base)(f:Ka 43 2 W base v L)(d:W.grownBy w' v.ownBlock)(k:Nat)(u:Oa):Ka 43 2 (w'.setCell ⟨s,k,H⟩ u) (s+1) a cs:=by
 refine Ka.setOther (h.grown d ?_) (fun e=>?_) _
 ·cases e:a.ownBlock with
  | none=>exact .inl rfl
  | some j=>exact .inr (fun b=>by have:=(f.lt _ b.symm).1;have:=c _ e;omega)
 ·have:=(h.lt _ e).1;dsimp only at this;omega
def pP(w:I)(p:Pl)(v:Oa)(h:Ja w v p.shape)(aI:Fa p=true)(hg:Gw w)(hL:Tc (Ga p) (Ga p).length≠[])(hU:pe (Ga p) (Ga p).length≠[]):Calls Tryz.prog 50 #[Od (Dd p v)] w (Bm w p v):=by
 obtain⟨a,c,rfl⟩:=h.form;obtain⟨aG,aU,av⟩:=To aI;have aq:=fun W (hW:Ba w W)=>vP W p _ (h.f hW) aI (hg.ext hW);obtain⟨cs,aH⟩:=gX (Ga p);obtain⟨pn,a9⟩:=gX p.shape.length;rw[a9]at aq h ⊢;obtain⟨R,hR⟩:=gX (Bm w p (O a pn c));rw[hR];have HR:=Aa hR;rw[aH]at aq aG aU av hL hU;obtain⟨n,hn⟩:=gX cs.length;rw[hn]at aU av hL hU;have bl:=Aa aq;have aO:=Aa aG;have Hn:=Aa hn;have aP:=Aa aH;have HL:=Aa hL;have HU:=Aa hU;clear aq aG hn aH hR aI a9 h hL hU;obtain⟨P,hP⟩:=gX p;obtain⟨nm,ps,d,de,gx,gz,wy,ax,az,sk⟩:=p;unfold Dd at *;dsimp only at *;have HP:=Aa hP;clear hP;go_in;go_wp2_with(((go_at_call 84;refine cM (bl.o _ eA) ?_;rintro e w1 ⟨v1,rfl,aj,al⟩;obtain⟨a1,n1,c1,rfl⟩:=aj.i;obtain rfl:n=n1:=(by have h9:=aj.len;rw[lL,Hn.o]at h9;exact h9.symm);obtain⟨⟨bu,bx⟩,be,bg,aC⟩:=Yb w al)));obtain⟨base,ab⟩:=gX w1.heap.size;have bc:Ba w w1:=eA;have bt:w.heap.size+1+1<base:=by rw[<-ab];exact aC
 have aw:∀j,(Value.slice a1 n c1).ownBlock=V j->j<base:=fun j hj=>by rw[<-ab];exact(aj.lt j hj).2
 have K0:=al.e (k:=w.heap.size) (by rw[Ag,if_neg (by simp;omega),Ag,if_neg sM];exact Ec _ _ _ rfl);have K1:=al.e (k:=w.heap.size+1) (by rw[Ag,if_neg sM];exact Ec _ _ _ sM);have K2:=al.e (k:=w.heap.size+1+1) (Ec _ _ _ sM);have aS:Di w base ⟨nm,ps,d,de,gx,gz,wy,ax,az,sk⟩ (O a pn c) [] [] (O H 0 0) (O H 0 0) w1:=
  ⟨bc,bt,by omega,K0,K1,K2,Ka.nil _ _ _ _,Ka.nil _ _ _ _,fun j hj=>by cases hj⟩
 have aB:Ka 43 2 w1 (w.heap.size+1+1+1) (O a1 n c1) (cs.map pc):=aj.mono sM;have aL:=Aa aS;have aQ:=Aa aB;have ar:=Aa aw;clear K0 K1 K2 aS aB aw aj al bu bx be bg aC ab bc;go_loopg [18] n (kR w base ⟨nm,ps,d,de,gx,gz,wy,ax,az,sk⟩ (O a pn c) cs (O a1 n c1))
 case atStart=>exact⟨0,_,_,by omega,rfl,by rw[Hn.o];rfl,aL.o,aQ.o⟩
 case round =>
  clear aL aQ;obtain⟨i,vl,vu,hi,rfl,rfl,hO,ay⟩:=hrel;rw[Hn.o]at hi;have bs:=hO;obtain⟨h1,_,h3,h4,h5,h6,h7,h8,h9⟩:=bs;obtain⟨la,ln,lc,rfl⟩:=h7.i;obtain⟨ua,un,uc,rfl⟩:=h8.i;have bH:=Ca h6 (i:=10) (u:=O la ln lc) rfl;have bI:=Ca h6 (i:=11) (u:=O ua un uc) rfl;have z6:=Gb h6;have bT:w.heap.size+1+1<wr.heap.size+1:=oM;have bU:w.heap.size+1+1<wr.heap.size+1+1:=oM;have HO:=Aa hO;have y:=Aa ay;have aK:=BA cs i;clear h1 h3 h4 h5 h6 h7 h8 h9 hO ay;by_cases bP:i<n
  ·obtain⟨⟨x,z⟩,hq⟩:∃q,cs[i]?=V q:=⟨cs[i]'(by rw[Hn.o];omega),by simp⟩;obtain⟨k,hk⟩:=gX ((i+1)%n);have bO:k<n:=by rw[<-hk];exact Nat.mod_lt _ oM
   obtain⟨⟨K,z'⟩,aJ⟩:∃q,cs[k]?=V q:=⟨cs[k]'(by rw[Hn.o];omega),by simp⟩;have hm:((i:Int)+1)%(n:Int)=(k:Int):=by rw[<-hk];simp
   obtain⟨b,o,rfl,hb,d0,d1⟩:=(y.o.pts).at' hq;obtain⟨b',o',e',bN,d2,d3⟩:=(y.o.pts).at' aJ;cases e';have hE:ze cs i=(if x<K then [(x,z),(K,z')]else [])/\Af cs i=(if K<x then [(x,z),(K,z')]else []):=by
    unfold ze Af;rw[Hn.o,hk,gD,gD,hq,aJ];exact⟨rfl,rfl⟩
   have HE:=Aa hE;have p1:(0:Int)<=(i:Int):=oM;have p2:(i:Int)<(n:Int):=oM;have p3:(0:Int)<=(k:Int):=oM;have p4:(k:Int)<(n:Int):=oM;have p5:(0:Int)<(n:Int):=oM;have aA:((Tc cs i).map pc).length+2<=100000000000/\((pe cs i).map pc).length+2<=100000000000:=by rw[lL,lL];omega
   have au:=Aa aA;clear hq aJ hE hk aA aK;by_cases t1:x<K
   ·have g:=HE.o.1;have l:=HE.o.2;rw[if_pos t1]at g;rw[if_neg oM]at l;have ae:=Aa g;have af:=Aa l;clear g l;have X5:Ba wr (((wr.alloc (Ob #[N C x,N C z] 43)).alloc (Ob #[N C K,N C z'] 43)).alloc (Ob #[N C x,N C z,N C K,N C z'] 43)):=(((eR wr).alloc _).alloc _).alloc _;have r:=HO.o.ext X5;have ak:=r.2.2.2.2.2.2;have ah:=r.2.2.1;have aD:=Aa r.2.2.2.2.2.1;have aE:=Aa r;have aa:=Aa ak.1;clear r ak;go_wp2_with(at_builtin;refine zh (T:=43) (t:=121) (z:=Od #[N C 0,N C 0]) (k:=2) (bytes:=16) (base:=base) (v:=O la ln lc) (cs:=(Tc cs i).map pc) (m:=2) (c:=2) (ad:=⟨wr.heap.size+1+1,0,H⟩) Wm rfl dM dM Tryz.underlying121 rfl _ _ rfl rfl aa.o rfl [pc (x,z),pc (K,z')] rfl (by simp[pc]) (by simpa using vC ((wr.alloc (Ob #[N C x,N C z] 43)).alloc (Ob #[N C K,N C z'] 43)) x z K z' 43) (EA _ _ _ _) au.o.1 ah ?_;intro v' w5 s f ai;obtain⟨a5,n5,c5,rfl⟩:=s.i;have E5:=li f aD.o (fun e=>by have:=(aa.o.lt _ e.symm).1;omega);have c9:=Ca E5 (i:=10) (u:=O la ln lc) rfl;have f9:=Ua E5 10);go_roundg (n-(i+1))
    case measure=>have:=Hn.o;omega
    case rel =>
     refine⟨i+1,O a5 n5 c5,O ua un uc,by have:=Hn.o;omega,by go_num,by rw[Hn.o],?_,OA (y.o.ext X5) ar.o aa.o f _ _⟩;rw[Eu,Vt,ae.o,af.o,List.append_nil];exact Di.setLow aE.o f (by rw[List.map_append];exact s) ai
   ·by_cases t2:K<x
    ·have k1:K<=x:=oM;have g:=HE.o.1;have l:=HE.o.2;rw[if_neg t1]at g;rw[if_pos t2]at l;have ae:=Aa g;have af:=Aa l;clear t1 g l;have X5:Ba wr (((wr.alloc (Ob #[N C x,N C z] 43)).alloc (Ob #[N C K,N C z'] 43)).alloc (Ob #[N C x,N C z,N C K,N C z'] 43)):=(((eR wr).alloc _).alloc _).alloc _;have r:=HO.o.ext X5;have ak:=r.2.2.2.2.2.2;have ah:=r.2.2.1;have aD:=Aa r.2.2.2.2.2.1;have aE:=Aa r;have aa:=Aa ak.2.1;clear r ak;go_wp2_with(at_builtin;refine zh (T:=43) (t:=121) (z:=Od #[N C 0,N C 0]) (k:=2) (bytes:=16) (base:=base) (v:=O ua un uc) (cs:=(pe cs i).map pc) (m:=2) (c:=2) (ad:=⟨wr.heap.size+1+1,0,H⟩) Wm rfl dM dM Tryz.underlying121 rfl _ _ rfl rfl aa.o rfl [pc (x,z),pc (K,z')] rfl (by simp[pc]) (by simpa using vC ((wr.alloc (Ob #[N C x,N C z] 43)).alloc (Ob #[N C K,N C z'] 43)) x z K z' 43) (EA _ _ _ _) au.o.2 ah ?_;intro v' w5 s f ai;obtain⟨a5,n5,c5,rfl⟩:=s.i;have E5:=li f aD.o (fun e=>by have:=(aa.o.lt _ e.symm).1;omega);have c9:=Ca E5 (i:=11) (u:=O ua un uc) rfl;have f9:=Ua E5 11);go_roundg (n-(i+1))
     case measure=>have:=Hn.o;omega
     case rel =>
      refine⟨i+1,O la ln lc,O a5 n5 c5,by have:=Hn.o;omega,by go_num,by rw[Hn.o],?_,OA (y.o.ext X5) ar.o aa.o f _ _⟩;rw[Eu,Vt,ae.o,af.o,List.append_nil];exact Di.setUp aE.o f (by rw[List.map_append];exact s) ai
    ·have k1:K<=x:=oM;have k2:x<=K:=oM;have g:=HE.o.1;have l:=HE.o.2;rw[if_neg t1]at g;rw[if_neg t2]at l;have ae:=Aa g;have af:=Aa l;clear t1 t2 g l;go_wp2;go_roundg (n-(i+1))
     case measure=>have:=Hn.o;omega
     case rel =>
      refine⟨i+1,O la ln lc,O ua un uc,by have:=Hn.o;omega,by go_num,by rw[Hn.o],?_,y.o.ext eA⟩;rw[Eu,Vt,ae.o,af.o,List.append_nil,List.append_nil];exact HO.o.ext eA
  ·obtain rfl:i=n:=oM;have hO:=HO.o;have ac:=yq aO.o (i:=i) (by rw[Hn.o];exact nE _);obtain⟨LR,ao⟩:=gX (Tc cs i);obtain⟨UR,ap⟩:=gX (pe cs i);rw[ao,ap]at aK hO ac;have aR:LR≠[]:=by rw[<-ao];exact HL.o
   have aT:UR≠[]:=by rw[<-ap];exact HU.o
   have bi:=Aa ao;have bk:=Aa ap;clear ao ap HO;obtain⟨lg,rfl,_,_⟩:=Ka.blk hO.2.2.2.2.2.2.1 (by rw[lL];exact List.length_pos_iff.2 aR);obtain⟨ug,rfl,_,_⟩:=Ka.blk hO.2.2.2.2.2.2.2.1 (by rw[lL];exact List.length_pos_iff.2 aT);have ba:=JE wr base lg ln lc LR hO.2.2.2.2.2.2.1 (fun q hq=>⟨(ac.1 q hq).1.mono dM,(ac.1 q hq).2.mono dM⟩) oM;have bb:=fun(W:I)(ho:Ka 43 2 W base (O (V ⟨ug,0,H⟩) un uc) (UR.map pc))=>JE W base ug un uc UR ho (fun q hq=>⟨(ac.2 q hq).1.mono dM,(ac.2 q hq).2.mono dM⟩) oM;have aZ:(Ye LR).length<=1000000:=by rw[(Qo LR).length_eq];omega
   have a0:(Ye UR).length<=1000000:=by rw[(Qo UR).length_eq];omega
   have aX:=fun(W:I)(ho:Ka 43 2 W base (O (V ⟨lg,0,H⟩) ln lc) ((Ye LR).map pc))=>FE W base (O (V ⟨lg,0,H⟩) ln lc) (Ye LR) ho aZ;have aY:=fun(W:I)(ho:Ka 43 2 W base (O (V ⟨ug,0,H⟩) un uc) ((Ye UR).map pc))=>FE W base (O (V ⟨ug,0,H⟩) un uc) (Ye UR) ho a0;have HO:=Aa hO;have bo:=Aa ba;have bp:=Aa bb;have bm:=Aa aX;have bn:=Aa aY;clear hO ba bb aX aY ac aK aZ a0 aR aT y aO;go_wp2_with fail;(with_reducible refine bo.o.mono ?_);rintro e w2 ⟨rfl,a3,aV⟩;have am:=Aa (Di.low HO.o aV a3);have bJ:=Ca am.o.2.2.2.2.2.1 (i:=11) (u:=O (V ⟨ug,0,H⟩) un uc) rfl;have bQ:=Gb am.o.2.2.2.2.2.1;clear a3 aV;go_wp2_with fail;have bD:=am.o.2.2.2.2.2.2.2.1;(with_reducible refine(bp.o w2 bD).mono ?_);rintro e w3 ⟨rfl,a6,aW⟩;have bj:=Aa (Di.up am.o aW a6);clear a6 aW;go_wp2_with fail;have ag:=bj.o.toX;have bK:=Ca ag.2.2.2.2.1 (i:=10) (u:=O (V ⟨lg,0,H⟩) ln lc) rfl;have bL:=Ca ag.2.2.2.2.1 (i:=11) (u:=O (V ⟨ug,0,H⟩) un uc) rfl;have y3:=Gb ag.2.2.2.2.1;have aM:=Aa ag;have bh:=Aa (aM.o.ext (eR w3).drew).2.2.2.2.2.1;clear ag
   first|(go_region_with (first|((go_at_call 128;(with_reducible refine(bm.o _ bh.o).mono ?_);rintro e w4 ⟨v4,rfl,a7,bz,bv⟩;obtain⟨a4,n4,c4,rfl⟩:=a7.i;have an:=Aa (Gl.low (aM.o.ext (eR w3).drew) bz a7 bv);have bM:=Ca an.o.2.2.2.2.1 (i:=11) (u:=O (V ⟨ug,0,H⟩) un uc) rfl;have y4:=Gb an.o.2.2.2.2.1;have bE:=an.o.2.2.2.2.2.2.1))|((go_at_call 128;(with_reducible refine(bn.o _ bE).mono ?_);rintro e w5 ⟨v5,rfl,a8,bA,bw⟩;obtain⟨a5,n5,c5,rfl⟩:=a8.i;have aF:=Aa (Gl.up an.o bA a8 bw);obtain⟨b0,b1,b2,b3,b4,b5,b6,b7,b8,b9,bF,bG,bf,y5⟩:=UG aF.o.2.2.2.2.1;obtain⟨d0,d1,d2,d3,d4,d5,d6,d7,d8,d9,bq,br,df,y6⟩:=VG aF.o.2.2.2.1;dsimp only at b0 b2 b3 b4 b5 b6 b7 b8 b9))))|fail
   all_goals go_wp2
   all_goals
    have bB:¬w.heap.size+1+1=w.heap.size+1:=oM;have bC:¬w.heap.size+1=w.heap.size+1+1:=oM;refine bR (v:=Od (Je ⟨nm,ps,d,de,gx,gz,wy,ax,az,sk⟩ (O a pn c) (O a4 n4 c4) (O a5 n5 c5))) (by simp[results,Tryz.results50,go_sem,Je,d0,d1,d2,d3,d4,d5,d6,d7,d8,d9,bq,br,bB,bC]) rfl ?_;rw[<-HR.o];obtain⟨f1,f2,f3,f5,f6,f7,f8,f9⟩:=aF.o;have a2:∀{u:Oa}{L:List (List Oa)},Ka 43 2 w5 base u L->u.ownBlock≠V (w.heap.size+1+1)/\u.ownBlock≠V (w.heap.size+1):=fun ho=>⟨fun e=>by have:=(ho.lt _ e).1;omega,fun e=>by have:=(ho.lt _ e).1;omega⟩;obtain⟨m1,m2⟩:=a2 f7;obtain⟨m3,m4⟩:=a2 f8;refine⟨O a4 n4 c4,O a5 n5 c5,rfl,?_,?_,?_⟩
    ·unfold Ea kd;rw[aP.o,Hn.o,bi.o];refine Ka.pts (base:=base) ?_
     repeat(refine Ka.setOther ?_ (by first|exact m1|exact m2) _)
     exact f7
    ·unfold Pb kd;rw[aP.o,Hn.o,bk.o];refine Ka.pts (base:=base) ?_
     repeat(refine Ka.setOther ?_ (by first|exact m3|exact m4) _)
     exact f8
    ·repeat(refine Ba.set ?_ dO _)
     exact f1
def Uv{ps:LP}(i:Int):Cf ps (i+ps.length)=Cf ps i:=by unfold Cf;rw[Int.add_emod_right]
def JI(u v c:Int×Int):Ke u v c=Ke c u v:=by unfold Ke;grind
def kv{ps:LP}(h:ub ps=true){i:Nat}(d:i<ps.length):0<Ke (Cf ps ((i:Int)-1)) (Cf ps i) (Cf ps ((i:Int)+1))/\∀k:Nat,2<=k->k<ps.length-1->0<Ke (Cf ps i) (Cf ps ((i:Int)+1)) (Cf ps ((i:Int)+k)):=by
 unfold ub at h;simp only[Bool.and_eq_true,List.all_eq_true,List.mem_range]at h;have a:=h.2 i d;unfold mh at a;simp only[Bool.and_eq_true,List.all_eq_true,List.mem_range,Bool.or_eq_true,decide_eq_true_eq]at a;refine⟨by simpa[kj] using a.1,fun k e b=>?_⟩;rcases a.2 k b with c|c
 ·omega
 ·simpa[jj] using c
def BC{ps:LP}(h:ub ps=true){i j:Nat}(d:i<ps.length)(b:j<ps.length)(e:i≠j):ps[j]=Cf ps ((i:Int)+1)\/ps[j]=Cf ps ((i:Int)-1)\/0<Ke (Cf ps i) (Cf ps ((i:Int)+1)) ps[j]:=by
 have a:ps[j]=Cf ps (j:Int):=by
  have:=Vq b;rw[gE b]at this;exact Option.some.inj this
 obtain⟨k,g,l,f⟩:∃k:Nat,1<=k/\k<=ps.length-1/\Cf ps ((i:Int)+k)=Cf ps (j:Int):=by
  by_cases m:i<j
  ·exact⟨j-i,by omega,by omega,by congr 1;omega⟩
  ·refine⟨j+ps.length-i,by omega,by omega,?_⟩;rw[show (i:Int)+((j+ps.length-i:Nat):Int)=(j:Int)+ps.length by omega];exact Uv _
 rw[a,<-f];by_cases c:k=1
 ·subst c;exact .inl rfl
 ·by_cases n:k=ps.length-1
  ·right;left
   rw[show (i:Int)+(k:Int)=((i:Int)-1)+ps.length by omega];exact Uv _
  ·right;right
   exact(kv h d).2 k oM oM
def BO{ps:LP}(h:ub ps=true):Qf ps:=by
 have l:3<=ps.length:=by
  unfold ub Ta at h;simp only[Bool.and_eq_true,decide_eq_true_eq]at h;omega
 have a:∀i:Nat,(hi:i<ps.length)->ps[i]=Cf ps (i:Int):=fun i hi=>by
  have:=Vq hi;rw[gE hi]at this;exact Option.some.inj this
 refine⟨?_,l,fun u v n c m o hv=>?_⟩
 ·rw[List.nodup_iff_pairwise_ne,List.pairwise_iff_getElem];intro i j hi k f e;have b:=(kv h hi).1;rcases BC h hi k oM with d|d|d
  ·rw[<-d,<-e,a i hi]at b;unfold Ke at b;simp at b
  ·rw[<-d,<-e,a i hi]at b;unfold Ke at b;simp at b
  ·rw[<-e,a i hi]at d;have:Ke (Cf ps (i:Int)) (Cf ps ((i:Int)+1)) (Cf ps (i:Int))=0:=by unfold Ke;grind
   omega
 ·obtain⟨i,hi,rfl,rfl⟩:∃i:Nat,i<ps.length/\u=Cf ps (i:Int)/\v=Cf ps ((i:Int)+1):=by
   rcases n with ⟨A,B,e⟩|⟨M,e⟩
   ·(have g:A.length<ps.length:=by rw[e];simp);(have r:A.length+1<ps.length:=by rw[e];simp);refine⟨A.length,g,?_,?_⟩
    ·rw[<-a _ g];simp[e]
    ·have:=a _ r;rw[show ((A.length+1:Nat):Int)=(A.length:Int)+1 by omega]at this;rw[<-this];simp[e]
   ·have q:0<ps.length:=oM;(have g:M.length+1<ps.length:=by rw[e];simp);(have s:ps.length=M.length+2:=by rw[e];simp);refine⟨M.length+1,g,?_,?_⟩
    ·rw[<-a _ g];simp[e]
    ·rw[show ((M.length+1:Nat):Int)+1=0+ps.length by omega,Uv];have:=a 0 q;rw[show ((0:Nat):Int)=0 from rfl]at this;rw[<-this];simp[e]
  obtain⟨j,k,rfl⟩:=List.mem_iff_getElem.1 m;have f:i≠j:=by rintro rfl;exact o (a i hi)
  rcases BC h hi k f with d|d|d
  ·exact absurd d hv
  ·rw[d,JI];exact(kv h hi).1
  ·exact d
def VO{ps:LP}(h:Qf ps):Qf (Sc ps):=by
 unfold Sc;refine Qf.map ?_ _ ?_ ?_
 ·have:=Qf.rot (P:=ps.take (Fg ps)) (Q:=ps.drop (Fg ps)) (by rw[List.take_append_drop];exact h);exact this
 ·intro u v c;unfold Ke;dsimp only;grind
 ·intro x y e;simp only[Prod.mk.injEq]at e;exact Prod.ext oM oM
def uB(way:Int)(u v c:Int×Int):Ke (Wc way u) (Wc way v) (Wc way c)=if 3<way then Ke v u c else Ke u v c:=by unfold Wc Ke;dsimp only;split<;>(split<;>first|grind|(split<;>first|grind|(split<;>grind)))
def vB(way:Int)(x y:Int×Int)(h:Wc way x=Wc way y):x=y:=by unfold Wc at h;dsimp only at h;obtain⟨a,b⟩:=x;obtain⟨c,d⟩:=y;split at h<;>(split at h<;>first|(simp only[Prod.mk.injEq]at h ⊢;omega)|(split at h<;>first|(simp only[Prod.mk.injEq]at h ⊢;omega)|(split at h<;>(simp only[Prod.mk.injEq]at h ⊢;omega))))
def kN{way:Int}{ps:LP}(h:Qf ps):Qf (Fc way ps):=by
 unfold Fc;refine VO ?_;by_cases a:3<way
 ·rw[if_pos a];exact h.flip _ (fun u v c=>by rw[uB,if_pos a]) (vB way)
 ·rw[if_neg a];exact h.map _ (fun u v c=>by rw[uB,if_neg a]) (vB way)
def ur{p:Pl}(h:Fa p=true):Qf (Ga p):=by
 have a:ub p.shape=true:=by
  cases hcc:ub p.shape with
  | true=>rfl
  |false=>
   unfold Fa Cd at h;rw[Cu hcc]at h;simp at h
 unfold Ga;refine(kN (BO a)).map _ ?_ ?_
 ·intro u v c;unfold Ke;dsimp only;grind
 ·intro x y e;simp only[Prod.mk.injEq]at e;exact Prod.ext oM oM
end
section
open Go.RowKit Go.Shelf Go.Lib
def Bi(s:ByteArray)(i:Nat):Nat:=(s.get! i).toNat
def zO(n a b c d:Nat)(h:¬a<128):128<=(decodeN n a b c d).1:=by
 unfold decodeN;rw[if_neg h]
 repeat' split
 all_goals(simp only;omega)
def Gz{r:Nat}(h:128<=r):Mf (r:Int)=true:=by unfold Mf;rw[decide_eq_false (show ¬(r:Int)<=122 by omega),decide_eq_false (show ¬(r:Int)<=57 by omega)];simp
def oA(s:ByteArray):∀f pos,s.size<=pos+f->(idxFuncFrom (fun r:Nat=>Mf r) true s f pos = -1 ↔ ∀i,pos<=i->i<s.size->Mf (Bi s i)=false)
 | 0,pos,h=>⟨fun _ i d b=>absurd b (by omega),fun _=>rfl⟩
 | f+1,pos,h=>by
  unfold idxFuncFrom;by_cases c:pos<s.size
  ·rw[if_pos c,decode_at];have k:=oA s f (pos+1) oM;by_cases g:Bi s pos<128
   ·have e:decodeN (s.size-pos) (s.get! pos).toNat (s.get! (pos+1)).toNat (s.get! (pos+2)).toNat (s.get! (pos+3)).toNat=(Bi s pos,1):=by
     unfold decodeN;exact if_pos g
    rw[e];dsimp only;cases ho:Mf (Bi s pos:Int)with
    |true=>
     rw[if_pos rfl];constructor
     ·intro a;omega
     ·intro a;have:=a pos (nE _) c;rw[ho]at this;cases this
    |false=>
     rw[if_neg sM,k];constructor
     ·intro a i d b;by_cases e:i=pos
      ·subst e;exact ho
      ·exact a i oM b
     ·intro a i d b;exact a i oM b
   ·have j:=zO (s.size-pos) (s.get! pos).toNat (s.get! (pos+1)).toNat (s.get! (pos+2)).toNat (s.get! (pos+3)).toNat g;rw[if_pos (Gz j)];constructor
    ·intro a;omega
    ·intro a;have:=a pos (nE _) c;rw[Gz oM]at this;cases this
  ·rw[if_neg c];exact⟨fun _ i d b=>absurd b oM,fun _=>rfl⟩
def Tj(s:ByteArray):Bool:=(List.range s.size).all (fun i=>!Mf (Bi s i))&&Ta s.size 1 16
def NG(s:ByteArray):Tj s=Ie s:=by
 unfold Tj Ie;rw[Bool.and_comm]
 congr 1
 have h:=oA s s.size 0 oM;have c:=idxFunc_range (fun r:Nat=>Mf r) true s;unfold idxFunc at c ⊢;rw[Bool.eq_iff_iff,List.all_eq_true,Bool.not_eq_true',decide_eq_false_iff_not];constructor
 ·intro b;have:=h.2 (fun i _ a=>by simpa using b i (List.mem_range.2 a));omega
 ·intro b i a;have:=(h.1 oM) i (Nat.zero_le _) (List.mem_range.1 a);simp[this]
end
section
open Go.RowKit Go.Shelf
def Qh(cs:LP):Prop:=∃c,∀q∈cs,q.1=c
def Io(cs:LP):Prop:=∃c,∀q∈cs,q.2=c
def KP{ps:LP}(h:ub ps=true):¬Qh ps/\¬Io ps:=by
 have f:=Cx h;unfold ub at h;rw[Bool.and_eq_true,List.all_eq_true]at h;have d:=h.2 0 (List.mem_range.2 oM);unfold mh kj at d;rw[Bool.and_eq_true,decide_eq_true_eq]at d;have b:=d.1;have mem:∀i:Int,Cf ps i∈ps:=fun i=>by
  obtain⟨j,_,_,e⟩:=Ev (ps:=ps) (i:=i) oM;exact lM e
 refine⟨fun⟨c,a⟩=>?_,fun⟨c,a⟩=>?_⟩
 ·unfold Ke at b;rw[a _ (mem _),a _ (mem _),a _ (mem _)]at b;simp at b
 ·unfold Ke at b;rw[a _ (mem _),a _ (mem _),a _ (mem _)]at b;simp at b
def UI{way:Int}{ps:LP}(h:Qh (ps.map (Wc way))):Qh ps\/Io ps:=by
 obtain⟨c,g⟩:=h;have a:∀q∈ps,(Wc way q).1=c:=fun q a=>g _ (List.mem_map.2 ⟨q,a,rfl⟩);unfold Wc at a;dsimp only at a;by_cases f:3<way
 ·simp only[if_pos f]at a;by_cases b:way%4=0
  ·simp only[if_pos b]at a;exact .inl ⟨-c,fun q h=>by have:=a q h;omega⟩
  ·simp only[if_neg b]at a;by_cases d:way%4=1
   ·simp only[if_pos d]at a;exact .inr ⟨-c,fun q h=>by have:=a q h;omega⟩
   ·simp only[if_neg d]at a;by_cases e:way%4=2
    ·simp only[if_pos e]at a;exact .inl ⟨c,fun q h=>by have:=a q h;omega⟩
    ·simp only[if_neg e]at a;exact .inr ⟨c,fun q h=>by have:=a q h;omega⟩
 ·simp only[if_neg f]at a;by_cases b:way%4=0
  ·simp only[if_pos b]at a;exact .inl ⟨c,fun q h=>by have:=a q h;omega⟩
  ·simp only[if_neg b]at a;by_cases d:way%4=1
   ·simp only[if_pos d]at a;exact .inr ⟨-c,fun q h=>by have:=a q h;omega⟩
   ·simp only[if_neg d]at a;by_cases e:way%4=2
    ·simp only[if_pos e]at a;exact .inl ⟨-c,fun q h=>by have:=a q h;omega⟩
    ·simp only[if_neg e]at a;exact .inr ⟨c,fun q h=>by have:=a q h;omega⟩
def EP{ps:LP}(h:Qh (Sc ps)):Qh ps:=by
 obtain⟨c,b⟩:=h;refine⟨c+(Va ps).1,fun q a=>?_⟩;have d:q∈ps.drop (Fg ps)++ps.take (Fg ps):=by
  rw[<-List.take_append_drop (Fg ps) ps]at a;rcases List.mem_append.1 a with h|h
  ·exact List.mem_append_right _ h
  ·exact List.mem_append_left _ h
 have:=b _ (List.mem_map.2 ⟨q,d,rfl⟩);dsimp only at this;omega
def yE{p:Pl}(h:Fa p=true):¬Qh (Ga p):=by
 intro ⟨c,b⟩;have f:=(Ix h).1;have d:ub p.shape=true:=by
  unfold Cd at f;simp only[Bool.and_eq_true]at f;cases hcc:ub p.shape
  ·have:=f.1.1.1.2;rw[Cu hcc]at this;cases this
  ·rfl
 obtain⟨j,k⟩:=KP d;have g:Qh (Fc p.way p.shape):=⟨c-p.ax,fun q e=>by
  have:=b _ (List.mem_map.2 ⟨q,e,rfl⟩);dsimp only at this;omega⟩
 unfold Fc at g;have a:=EP g;have i:Qh (p.shape.map (Wc p.way)):=by
  split at a
  ·obtain⟨c,b⟩:=a;exact⟨c,fun q e=>b q (List.mem_reverse.2 e)⟩
  ·exact a
 rcases UI i with h|h
 ·exact j h
 ·exact k h
def Qy{xs:List Int}{n:Nat}(l:xs.length=n)(h:∀i,i<n->xs.getD ((i+1)%n) 0<=xs.getD i 0):∀x∈xs,x=xs.getD 0 0:=by
 have a:∀i,i<n->xs.getD i 0<=xs.getD 0 0:=by
  intro i;induction i with
  | zero=>intro _;exact Int.le_refl _
  | succ i f =>
   intro b;have g:=f oM;have c:=h i oM;rw[Nat.mod_eq_of_lt b]at c;omega
 have up:∀k i,i+k=n-1->i<n->xs.getD (n-1) 0<=xs.getD i 0:=by
  intro k;induction k with
  | zero=>intro i b l;rw[show i=n-1 by omega];exact Int.le_refl _
  | succ k f =>
   intro i b d;have g:=f (i+1) oM oM;have c:=h i d;rw[Nat.mod_eq_of_lt oM]at c;omega
 intro x m;obtain⟨i,b,rfl⟩:=List.mem_iff_getElem.1 m;have e:xs.getD i 0=xs[i]:=by rw[gD,gE b];rfl
 have g:=a i oM;have c:=up (n-1-i) i oM oM;have j:=h (n-1) oM;rw[show n-1+1=n by omega,Nat.mod_self]at j;omega
def LB(cs:LP)(i:Nat):(cs.map (·.1)).getD i 0=(cs.getD i (0,0)).1:=by rw[gD,gD,lP];cases cs[i]?<;>rfl
def Lz{p:Pl}(h:Fa p=true):Tc (Ga p) (Ga p).length≠[]:=by
 intro e;apply yE h;have d:∀i,i<(Ga p).length->¬((Ga p).getD i (0,0)).1<((Ga p).getD ((i+1)%(Ga p).length) (0,0)).1:=by
  intro i a b;unfold Tc at e;rw[List.flatMap_eq_nil_iff]at e;have:=e i (List.mem_range.2 a);unfold ze at this;rw[if_pos b]at this;cases this
 refine⟨_,fun q c=>Qy (xs:=(Ga p).map (·.1)) (n:=(Ga p).length) sM (fun i a=>?_) q.1 (List.mem_map.2 ⟨q,c,rfl⟩)⟩;rw[LB,LB];have:=d i a;omega
def zy{p:Pl}(h:Fa p=true):pe (Ga p) (Ga p).length≠[]:=by
 intro e;apply yE h;have f:∀i,i<(Ga p).length->¬((Ga p).getD ((i+1)%(Ga p).length) (0,0)).1<((Ga p).getD i (0,0)).1:=by
  intro i a b;unfold pe at e;rw[List.flatMap_eq_nil_iff]at e;have:=e i (List.mem_range.2 a);unfold Af at this;rw[if_pos b]at this;cases this
 refine⟨-(((Ga p).map (fun q=>-q.1)).getD 0 0),fun q d=>?_⟩;have c:∀i,((Ga p).map (fun q=>-q.1)).getD i 0 = -((Ga p).getD i (0,0)).1:=fun i=>by
  rw[gD,gD,lP];cases (Ga p)[i]?<;>rfl
 have:=Qy (xs:=(Ga p).map (fun q=>-q.1)) (n:=(Ga p).length) sM (fun i a=>by rw[c,c];have:=f i a;omega) (-q.1) (List.mem_map.2 ⟨q,d,rfl⟩);omega
def Du(w:I)(p:Pl)(v:Oa)(h:Ja w v p.shape)(a:Fa p=true)(b:Gw w):Calls Tryz.prog 50 #[Od (Dd p v)] w (Bm w p v):=
 pP w p v h a b (Lz a) (zy a)
def Kr{α:Type}[DecidableEq α]:∀{c:List α}{x:α},x∈Na c->x∈c
 | [],_,h=>h
 | [a],_,h=>h
 | a::b::r,x,h=>by
  rw[Na]at h;split at h
  ·exact mC _ (Kr h)
  ·rcases List.mem_cons.1 h with rfl|h
   ·simp
   ·exact mC _ (Kr h)
def IE{α:Type}[DecidableEq α]:∀{c:List α},c≠[]->Na c≠[]
 | [],h=>absurd rfl h
 | [a],_=>by simp[Na]
 | a::b::r,_=>by
  rw[Na];split
  ·exact IE (by simp)
  ·simp
def zE{α:Type}[DecidableEq α]:∀(c:List α),(Na c).length<=c.length
 | []=>by simp[Na]
 | [a]=>by simp[Na]
 | a::b::r=>by
  rw[Na];have:=zE (b::r);split
  ·simp at this ⊢;omega
  ·simp at this ⊢;omega
def NC{k:Int}{a:LP}(h:a≠[])(c:xg k a)(f:a.length<=24):kd a≠[]/\xg k (kd a)/\(kd a).length<=24:=by
 unfold kd;have b:=Qo a;refine⟨IE (fun e=>h ?_),fun q d=>c q (b.mem_iff.1 (Kr d)),?_⟩
 ·rw[e]at b;exact b.symm.eq_nil
 ·have:=zE (Ye a);rw[b.length_eq]at this;omega
def mc(l:LP):Prop:=l≠[]/\xg 104000 l/\l.length<=64
def Lh{p:Pl}(h:Fa p=true):mc (Ea p)/\mc (Pb p):=by obtain⟨d,e,yj⟩:=To h;have c:=yq d (nE _);have f:=BA (Ga p) (Ga p).length;have a:=NC (Lz h) c.1 oM;have b:=NC (zy h) c.2 oM;exact⟨⟨a.1,a.2.1,nT a.2.2 oM⟩,⟨b.1,b.2.1,nT b.2.2 oM⟩⟩
end
section
open Go.RowKit Go.Shelf
attribute [local go_sem] Oper.semAt_some
abbrev Gj:=(Int×Int)×(Int×Int)
def Qe(l:LP):List Gj:=l.zip l.tail
def im(e:Gj):Array Oa:=#[Od #[N C e.1.1,N C e.1.2],Od #[N C e.2.1,N C e.2.2]]
def Iv(l:LP):(Qe l).length=l.length-1:=by simp[Qe]
def Jv{l:LP}{j:Nat}{p q:Int×Int}(a:l[j]?=V p)(b:l[j+1]?=V q):(Qe l)[j]?=V (p,q):=by unfold Qe;rw[List.getElem?_zip_eq_some];exact⟨a,by rw[List.getElem?_tail];exact b⟩
def yD(w:I)(sl:Option Addr)(n c:Nat):Calls Tryz.prog 148 #[O sl n c] w fun e w'=>e=.returned (.func (.func 196) #[] #[Oe (V ⟨w.heap.size,0,H⟩)])/\w.alloc (Ob #[O sl n c] 121)=w':=by have b:∀(a:Fn)(first cap:Array Oa)(w:I),(Instr.makeFunc a first cap).run Tryz.prog w = .ok (.func a first cap) w:=fun _ _ _ _=>rfl;go_in;go_wp2;go_ret;exact⟨rfl,rfl⟩
def vI{F:Fence}{m:Nat}{P:Program}{l:Nat}{a:FuncId}{tmps:Array Oa}{assign body:Code}{W:I}{A B:I->Prop}(h:RoundIn F m P l a tmps assign body W fun e W'=>(e=.returned (Oc true)/\A W')\/(e=.returned (Oc false)/\B W')):RoundIn F m P l a tmps assign body W fun e W'=>∃b:Bool,e=.returned (Oc b)/\(b=true->A W')/\(b=false->B W'):=
 h.mono fun e W' h=>by
  rcases h with ⟨rfl,h⟩|⟨rfl,h⟩
  ·exact⟨true,rfl,fun _=>h,fun h=>nomatch h⟩
  ·exact⟨false,rfl,fun h=>(nomatch h),fun _=>h⟩
def LN{β:Type}(f:β->Gj)(n:Nat)(hn:1<=n)(l g:Nat)(w w0:I)(sl:Oa)(ps:LP)(d:List β)(K:d.map f=Qe ps)(J Jx:List β->I->Prop)(hY:∀pre x W,J pre W->pre.length<d.length->YieldAt Fence.wide (n-1) Tryz.prog l (im (f x)) W fun e W' =>
   (e=.returned (Oc true)/\J (pre++[x]) W'/\Se w g W W')\/(e=.returned (Oc false)/\Jx (pre++[x]) W'))
  (ac:∀pre W,J pre W->J pre W.drew)(k:w0.cell? ⟨g,0,H⟩=V sl)(ae:g<w0.heap.size)(T:Ja w sl ps)(hw:Ba w w0)(W:I)(hW:Se w g w0 W)(h0:J [] W) :
  CallsIn Fence.wide n Tryz.prog 196 #[.func (.yield l) #[] #[],Oe (V ⟨g,0,H⟩)] W fun e W'=>(∃v,e=.returned v)/\
   ((∃ys,ys=d/\J ys W')\/(∃pre,pre <+: d/\Jx pre W')):=by
 obtain⟨a,c,rfl⟩:=T.form;have r:=T.le;obtain⟨m,hm⟩:=gX ps.length;rw[hm]at T k r;have i:d.length=m-1:=by have:=congrArg List.length K;rw[lL,Iv,hm]at this;exact this
 rw[i]at hY;unfold maxLen at r;have ak:m<=9223372036854775807:=oM;have Hm:=Aa hm;clear hm r;have ag:W.cell? ⟨g,0,H⟩=V (O a m c):=(World.cell?_of_block hW.2).trans k;refine callsIn_of_wp Tryz.func196 rfl trivial ?_ rfl;simp only[Tryz.ntmps196,List.size_toArray,List.length_cons,List.length_nil,Nat.reduceAdd,Nat.reduceSub,Array.replicate_succ,Array.replicate_zero,List.push_toArray,List.append_toArray,List.nil_append,List.cons_append]
 gi_wp2
 gi_loopw [3] (fun t3 wr=>∃j:Nat,j<=m/\t3=N C ((j+1:Nat):Int)/\J (d.take j) wr/\Se w g w0 wr)
  (fun t3 _=>(m+1-intOf t3).toNat)
 case atStart=>exact⟨0,by omega,rfl,by simpa using h0,hW⟩
 case round =>
  obtain⟨j,hj,rfl,hJ,t⟩:=hrel;have ah:wr.cell? ⟨g,0,H⟩=V (O a m c):=(World.cell?_of_block t.2).trans k;by_cases aj:j+1<m
  ·obtain⟨⟨x,z⟩,hp⟩:∃q,ps[j]?=V q:=⟨ps[j]'(by rw[Hm.o];omega),by simp⟩;obtain⟨⟨x',z'⟩,hq⟩:∃q,ps[j+1]?=V q:=⟨ps[j+1]'(by rw[Hm.o];omega),by simp⟩;have he:=Jv hp hq;obtain⟨y,s⟩:∃y,d[j]?=V y:=⟨d[j]'(by rw[i];omega),by simp⟩;have R:f y=((x,z),(x',z')):=by
    rw[<-K,lP,s]at he;exact Option.some.inj he
   obtain⟨b,o,rfl,hb,d0,d1⟩:=(T.f (hw.y t.1 (nE _))).at' hp;obtain⟨b',o',e',ai,d2,d3⟩:=(T.f (hw.y t.1 (nE _))).at' hq;cases e';obtain⟨fn,tmps,assign,body,hy,hR⟩:=hY _ y wr.drew (ac _ _ hJ) (by rw[List.length_take,i];omega);have aa:d.take j++[y]=d.take (j+1):=(Rf _ _ _ s).symm;rw[aa]at hR;have u:=vI hR;have HR:=Aa u;have u1:((j+1:Nat):Int)-1=(j:Int):=oM;have u2:IntKind.i64.wrap ((j:Int)+1-1)=(j:Int):=by rw[show (j:Int)+1-1=j by omega];exact iW _ ⟨by omega,by omega⟩
   have u6:IntKind.i64.wrap (j:Int)=(j:Int):=iW _ ⟨by omega,by omega⟩;have u3:(0:Int)<=(j:Int)+1:=oM;have u4:(j:Int)+1<(m:Int):=oM;have u5:((j:Int)+1).toNat=j+1:=oM;have p1:(0:Int)<=(j:Int):=oM;have p2:(j:Int)<(m:Int):=oM;have p3:((j+1:Nat):Int)<(m:Int):=oM;rw[R]at hy;clear hR u aa hp hq he s R;unfold im at hy;dsimp only at hy
   gi_wp2
   gi_region_with ((with_reducible refine RoundIn.mono HR.o ?_);rintro e W3 ⟨bb,rfl,hA,hB⟩)
   all_goals
    cases bb
    ·have ad:=hB rfl;clear hA hB
     gi_wp2
     refine bR (results_none rfl _ _ _) rfl ?_;exact⟨⟨_,rfl⟩,.inr ⟨_,⟨d.drop (j+1),List.take_append_drop _ _⟩,ad⟩⟩
    ·obtain⟨ab,af⟩:=hA rfl;clear hA hB
     gi_wp2
     go_roundw
     case rel=>exact⟨j+1,by omega,by go_num,ab,t.trans ((Se.refl w g wr).ext ((eR wr).drew) (hw.y t.1 (nE _)).size (Nat.lt_of_lt_of_le ae t.1.size) |>.trans af)⟩
     case measure=>simp[intOf];omega
  ·have e:d.take j=d:=lT (by rw[i];omega);rw[e]at hJ;have p3:¬((j+1:Nat):Int)<(m:Int):=oM;clear e
   gi_wp2
   go_end0
   exact⟨⟨_,rfl⟩,.inl hJ⟩
def DE{β:Type}(f:β->Gj)(n:Nat)(s:1<=n)(a:Nat)(w w0:I)(sl:Oa)(ps:LP)(b:List β)(g:b.map f=Qe ps)(d:w0.cell? ⟨a,0,H⟩=V sl)(c:a<w0.heap.size)(q:Ja w sl ps)(i:Ba w w0):SeqStopsK Fence.wide n Tryz.prog 196 #[Oe (V ⟨a,0,H⟩)] (fun x=>im (f x)) (Se w a) (fun t=>t=b) (fun pre=>pre <+: b) b.length w0:=
 fun l J j W m hJ _ o k=>LN f n s l a w w0 sl ps b g J j o (fun pre W' h=>hJ _ _ _ H h ⟨rfl,rfl,rfl,nE _,fun _ _ _=>rfl⟩ (fun r e=>by cases e)) d c q i W ((Se.refl w a w0).ext m i.size c) k
section
variable {P:Program} {ops:Array Oper} {Q:Exit->Act->I->Prop} {md:Region.Mode} {S:I->Prop}
def tp(P:Program)(md:Region.Mode)(ops:Array Oper)(Q:Exit->Act->I->Prop)(S:I->Prop)(fuel:Nat)(b:Array Bool)(a:Act)(w:I)(i:Nat)(oi:Oper):Prop:=
 ∃v,Region.noSelect ops=true/\Region.free md ops b i=true/\(Region.ready md ops b).contains i=true/\(∀c a w,Q (.panic c) (a.put oi.dst v) w->Q (.panic c) a w)/\YieldsIf P ops S oi v a/\S w/\
  wpAnyH P md ops Q S fuel (b.setIfInBounds i true) (a.put oi.dst v) w
def Ad{i:Nat}{oi:Oper}{fuel:Nat}{b:Array Bool}{a:Act}{w:I}(k:ops[i]?=V oi)(h:tp P md ops Q S fuel b a w i oi):wpAnyH P md ops Q S (fuel+1) b a w:=by obtain⟨v,c,d,e,f,g,h6,j⟩:=h;exact wpAnyH_take k c d e f g h6 j
def Cp(P:Program)(md:Region.Mode)(ops:Array Oper)(Q:Exit->Act->I->Prop)(S:I->Prop)(fuel:Nat)(b:Array Bool)(a:Act)(w:I)(i:Nat)(o:Oper):Prop:=
 Region.ready md ops b=[i]/\∀K':Act->I->Prop,Shut (∀a w,S w->(S w->wpAnyH P md ops Q S fuel (b.setIfInBounds i true) a w)->K' a w)->if Region.wanted o (yielded ops a.tmps)=true then Oper.wp P o a w K' Q else K' (a.put o.dst undef) w
def Yr{i:Nat}{o:Oper}{fuel:Nat}{b:Array Bool}{a:Act}{w:I}(c:ops[i]?=V o)(h:Cp P md ops Q S fuel b a w i o):wpAnyH P md ops Q S (fuel+1) b a w:=
 wpAnyH_ready h.1 sM (AllReadyH.cons c h.2 AllReadyH.nil)
def Db{v:Oa}{i:Nat}{oi:Oper}{fuel:Nat}{b:Array Bool}{a:Act}{w:I}{G:Prop}(h:G)(k:ops[i]?=V oi:=by(simp only[gA,gS,gZ];rfl))(e:Region.noSelect ops=true:=by kernel_rfl)(f:Region.free md ops b i=true:=by kernel_rfl)(g:(Region.ready md ops b).contains i=true:=by kernel_rfl)(h4:∀c a w,Q (.panic c) (a.put oi.dst v) w->Q (.panic c) a w:=by exact fun _ _ _ h=>h)(l:Region.wanted oi (yielded ops a.tmps)=true:=by rfl)(hy:∀w,S w->(execOp a.eval oi).run P w = .ok (.value v) w:=by(intro w d;simp only[Da,and_true]at d;go_simp;try(with_reducible rfl)))(h6:S w:=by(with_reducible assumption))(j:wpAnyH P md ops Q S fuel (b.setIfInBounds i true) (a.put oi.dst v) w=G:=by((try simp only[Act.put,sA,sZ,sS]);rfl)):wpAnyH P md ops Q S (fuel+1) b a w:=by subst j;exact Ad k ⟨v,e,f,g,h4,Or.inl ⟨l,hy⟩,h6,h⟩
def Kd{i:Nat}{oi:Oper}{fuel:Nat}{b:Array Bool}{a:Act}{w:I}{G:Prop}(h:G)(j:ops[i]?=V oi:=by(simp only[gA,gS,gZ];rfl))(d:Region.noSelect ops=true:=by kernel_rfl)(e:Region.free md ops b i=true:=by kernel_rfl)(f:(Region.ready md ops b).contains i=true:=by kernel_rfl)(h4:∀c a w,Q (.panic c) (a.put oi.dst undef) w->Q (.panic c) a w:=by exact fun _ _ _ h=>h)(k:Region.wanted oi (yielded ops a.tmps)=false:=by rfl)  (h6:S w:=by(with_reducible assumption))(g:wpAnyH P md ops Q S fuel (b.setIfInBounds i true) (a.put oi.dst undef) w=G:=by((try simp only[Act.put,sA,sZ,sS]);rfl)):wpAnyH P md ops Q S (fuel+1) b a w:=by subst g;exact Ad j ⟨undef,d,e,f,h4,Or.inr ⟨k,rfl⟩,h6,h⟩
def xb{v:Oa}{i:Nat}{oi:Oper}{fuel:Nat}{b:Array Bool}{a:Act}{w:I}{G:Prop}(h:G)(k:ops[i]?=V oi:=by(simp only[gA,gS,gZ];rfl))(e:Region.noSelect ops=true:=by kernel_rfl)(f:Region.free md ops b i=true:=by kernel_rfl)(g:(Region.ready md ops b).contains i=true:=by kernel_rfl)(h4:∀c a w,Q (.panic c) (a.put oi.dst v) w->Q (.panic c) a w:=by exact fun _ _ _ h=>h)(l:Region.wanted oi (yielded ops a.tmps)=true:=by rfl)(hy:∀w,S w->(execOp a.eval oi).run P w = .ok (.value v) w:=by(intro w d;simp only[Da,and_true]at d;go_simp;try(with_reducible rfl)))(h6:S w:=by(with_reducible assumption))(j:io (i+1) (wpAnyH P md ops Q S fuel (b.setIfInBounds i true) (a.put oi.dst v) w)=G:=by((try simp only[Act.put,sA,sZ,sS,Nat.reduceAdd]);rfl)):io i (wpAnyH P md ops Q S (fuel+1) b a w):=by subst j;exact Ad k ⟨v,e,f,g,h4,Or.inl ⟨l,hy⟩,h6,h⟩
def Ee{i:Nat}{oi:Oper}{fuel:Nat}{b:Array Bool}{a:Act}{w:I}{G:Prop}(h:G)(j:ops[i]?=V oi:=by(simp only[gA,gS,gZ];rfl))(d:Region.noSelect ops=true:=by kernel_rfl)(e:Region.free md ops b i=true:=by kernel_rfl)(f:(Region.ready md ops b).contains i=true:=by kernel_rfl)(h4:∀c a w,Q (.panic c) (a.put oi.dst undef) w->Q (.panic c) a w:=by exact fun _ _ _ h=>h)(k:Region.wanted oi (yielded ops a.tmps)=false:=by rfl)  (h6:S w:=by(with_reducible assumption))(g:io (i+1) (wpAnyH P md ops Q S fuel (b.setIfInBounds i true) (a.put oi.dst undef) w)=G:=by((try simp only[Act.put,sA,sZ,sS,Nat.reduceAdd]);rfl)):io i (wpAnyH P md ops Q S (fuel+1) b a w):=by subst g;exact Ad j ⟨undef,d,e,f,h4,Or.inr ⟨k,rfl⟩,h6,h⟩
def Ld{i:Nat}{o:Oper}{fuel:Nat}{b:Array Bool}{a:Act}{w:I}(h:∀K':Act->I->Prop,Shut (∀a w,S w->(S w->wpAnyH P md ops Q S fuel (b.setIfInBounds i true) a w)->K' a w)->if Region.wanted o (yielded ops a.tmps)=true then Oper.wp P o a w K' Q else K' (a.put o.dst undef) w)(c:ops[i]?=V o:=by(simp only[gA,gS,gZ];rfl))(d:Region.ready md ops b=[i]:=by kernel_rfl):wpAnyH P md ops Q S (fuel+1) b a w:=Yr c ⟨d,h⟩
def kO{K:Act->I->Prop}{A:I->Prop}{X:Act->I->Prop}(d:Shut (∀a w,A w->(A w->X a w)->K a w)){a:Act}{w:I}{G:Prop}(b:A w)(h:A w->G)(c:X a w=G:=by((try simp only[Act.put,sA,sZ,sS]);rfl)):K a w:=by subst c;exact Shut.out d _ _ b h
def Ub{f:FuncId}{args:Array Oa}{Y:Ending->I->Prop}{G:Oa->I->Prop}{i:Nat}{o:Oper}{fuel:Nat}{b:Array Bool}{a:Act}{w:I}(k:Calls P f args w Y)(h:∀e w',Y e w'->∃v,e=.returned v/\S w'/\(S w'->G v w'))(l:ops[i]?=V o:=by(simp only[gA,gS,gZ];rfl))(n:Region.ready md ops b=[i]:=by kernel_rfl)(q:Region.wanted o (yielded ops a.tmps)=true:=by rfl)(r:(execOp a.eval o).run P w = .ok (.enter f args) w:=by(go_simp;try(with_reducible rfl)))(d:∀v w',wpAnyH P md ops Q S fuel (b.setIfInBounds i true) (a.put o.dst v) w'=G v w':=by(intro v w';(try simp only[Act.put,sA,sZ,sS]);rfl)):wpAnyH P md ops Q S (fuel+1) b a w:=by refine Ld (i:=i) (fun K g=>?_) l n;rw[if_pos q];unfold Oper.wp;rw[r,Oper.upon_enter];refine k.mono fun e w' s=>?_;obtain⟨v,rfl,j,m⟩:=h e w' s;exact Shut.out g _ _ j (fun c=>by rw[d];exact m c)
def Wb{fuel:Nat}{b:Array Bool}{a:Act}{w:I}(h:Q .normal a w)(c:Region.ready md ops b=[]:=by kernel_rfl):wpAnyH P md ops Q S fuel b a w:=wpAnyH_done c h _
variable {P:Program} {ops:Array Oper} {Q:Exit->Act->I->Prop} {md:Region.Mode} {S:I->Prop}
def Xr{i j:Nat}{oi c:Oper}{fuel:Nat}{b:Array Bool}{a:Act}{w:I}(d:∀K':Act->I->Prop,Shut (∀a w,S w->(S w->wpAnyH P md ops Q S fuel (b.setIfInBounds i true) a w)->K' a w)->if Region.wanted oi (yielded ops a.tmps)=true then Oper.wp P oi a w K' Q else K' (a.put oi.dst undef) w)(e:∀K':Act->I->Prop,Shut (∀a w,S w->(S w->wpAnyH P md ops Q S fuel (b.setIfInBounds j true) a w)->K' a w)->if Region.wanted c (yielded ops a.tmps)=true then Oper.wp P c a w K' Q else K' (a.put c.dst undef) w)(f:ops[i]?=V oi:=by(simp only[gA,gS,gZ];rfl))(g:ops[j]?=V c:=by(simp only[gA,gS,gZ];rfl))(k:Region.ready md ops b=[i,j]:=by kernel_rfl) :
  wpAnyH P md ops Q S (fuel+1) b a w:=
 wpAnyH_ready k sM (AllReadyH.cons f d (AllReadyH.cons g e AllReadyH.nil))
end
def Oh(x:Rat)(e:Gj):Bool:=decide (Eb x ((e.2.1:Int):Rat)<=0)
def Oi(x:Rat)(e:Gj):Rat:=((e.1.2:Int):Rat)+((x-((e.1.1:Int):Rat))*((e.2.2-e.1.2:Int):Rat))/((e.2.1-e.1.1:Int):Rat)
def Yd(ps:LP)(x:Rat):Rat:=match (Qe ps).find? (Oh x)with|some e=>Oi x e|none=>(((ps.getD (ps.length-1) (0,0)).2:Int):Rat)
def RB.sim{B:Nat}{W W':I}{b:Nat}{q:Rat}(h:RB W b q)(k:Dj B W W'):RB W' b q:=by obtain⟨a,m,c,s,d,i,e,f,g⟩:=h;exact⟨a,m,c,s,d,i,e,k.heap f,g.keep (k.keep _)⟩
def Rg{k n:Int}(h:Bd k n)(a:k<=1000000:=by decide):Rb 1 (n:Rat):=Rb.int (by unfold Lm B;unfold Bd at h;simp;omega) (nE _)
def jt{k:Int}{ps:LP}(h:xg k ps){e:Gj}(d:e∈Qe ps):Bd k e.1.1/\Bd k e.1.2/\Bd k e.2.1/\Bd k e.2.2:=by obtain⟨p,q⟩:=e;have a:=List.of_mem_zip d;have b:=h p a.1;have c:=h q (List.mem_of_mem_tail a.2);exact⟨b.1,b.2,c.1,c.2⟩
abbrev BE:={ e:Gj // Bd 104000 e.1.1/\Bd 104000 e.1.2/\Bd 104000 e.2.1/\Bd 104000 e.2.2 }
def mS(w:I)(x:Rat)(pre:List BE)(W:I):Prop:=
 Ba w W/\w.heap.size+1+1+1<=W.heap.size/\RB W w.heap.size x/\RB W (w.heap.size+1) 0/\∀e∈pre,Oh x e.1=false
def kS(w:I)(x:Rat)(c:Code)(pre:List BE)(W:I):Prop:=
 c = .ret/\Ba w W/\w.heap.size+1+1+1<=W.heap.size/\∃(a:List BE)(e:BE),pre=a++[e]/\(∀e∈a,Oh x e.1=false)/\Oh x e.1=true/\RB W (w.heap.size+1) (Oi x e.1)
def Qi(s B:Nat)(i:Option Addr)(k j:Nat)(l:Bool)(a:Option Addr)(c b:Nat)(d e f g:Int)(W:I):Prop:=
 W.cell? ⟨s,0,H⟩=V (O i k j)/\W.cell? ⟨s,1,H⟩=V (Oc l)/\W.cell? ⟨s,2,H⟩=V (O a c b)/\W.cell? ⟨B,0,H⟩=V (N C d)/\W.cell? ⟨B,1,H⟩=V (N C e)/\W.cell? ⟨B+1,0,H⟩=V (N C f)/\W.cell? ⟨B+1,1,H⟩=V (N C g)
def Qi.ext{s B:Nat}{i:Option Addr}{l j:Nat}{m:Bool}{a:Option Addr}{c b:Nat}{d e f g:Int}{W W':I}(h:Qi s B i l j m a c b d e f g W)(k:Ba W W'):Qi s B i l j m a c b d e f g W':=by obtain⟨n,o,q,r,t,u,h6⟩:=h;exact⟨k.d n,k.d o,k.d q,k.d r,k.d t,k.d u,k.d h6⟩
def ov{W:I}{D:Nat}(a:W.heap[D]?=V (.deferred (V [])))(o:Obj):Dj D W (W.putObj D o):=
 Dj.of_grown (grownBy_putObj' W D o) (Nat.le_of_lt (Gb a)) (fun r e=>by cases e;exact⟨nE _,_,a,rfl⟩)
def Qi.set{s B:Nat}{i:Option Addr}{k j:Nat}{l:Bool}{a:Option Addr}{c b:Nat}{d e f g:Int}{W:I}(h:Qi s B i k j l a c b d e f g W){p:Addr}(y:p.block≠s)(z:p.block≠B)(K:p.block≠B+1)(u:Oa):Qi s B i k j l a c b d e f g (W.setCell p u):=by obtain⟨m,n,o,q,r,t,x⟩:=h;refine⟨?_,?_,?_,?_,?_,?_,?_⟩<;>(rw[World.cell?_setCell_far _ _ _ _ dO];assumption)
def Uo{B:Nat}{W W':I}(h:Ba W W'):KeepsFrom B W W':=⟨h.size,fun _ _ _ a _=>h.e a⟩
def UJ{β:Type}{f:β->Bool}{a pre:List β}{e:β}(d:pre++[e] <+: a)(c:∀x∈pre,f x=false)(b:f e=true):a.find? f=V e:=by
 obtain⟨t,rfl⟩:=d;rw[List.append_assoc,List.find?_append];have:pre.find? f=H:=by
  rw[List.find?_eq_none];intro x g;simp[c x g]
 rw[this];simp[b]
def pG{ps:LP}{x:Rat}{b:List BE}(a:b.map (fun e=>e.1)=Qe ps){pre:List BE}{e:BE}(g:pre++[e] <+: b)(d:∀e∈pre,Oh x e.1=false)(c:Oh x e.1=true):Yd ps x=Oi x e.1:=by unfold Yd;rw[<-a,List.find?_map,UJ (f:=Oh x ∘ fun e:BE=>e.1) g d c];rfl
def EL{ps:LP}{x:Rat}{b:List BE}(a:b.map (fun e=>e.1)=Qe ps)(d:∀e∈b,Oh x e.1=false){q:Int×Int}(f:ps[ps.length-1]?=V q):Yd ps x=((q.2:Int):Rat):=by
 unfold Yd;have:(Qe ps).find? (Oh x)=H:=by
  rw[<-a,List.find?_eq_none];intro y g;obtain⟨e,c,rfl⟩:=List.mem_map.1 g;simp[d e c]
 rw[this,gD,f];rfl
def zv(w:I)(v vx:Oa)(ps:LP)(x:Rat)(h:Ja w v ps)(aL:mc ps)(hx:Ab w vx x)(hb:Rb 1000 x):Calls Tryz.prog 88 #[v,vx] w (Pf w (Yd ps x)):=by
 obtain⟨a,c,rfl⟩:=h.form;obtain⟨xa,xm,xc,xs,bh,bj,bi,rfl⟩:=hx.form;have Hb:=Aa hb;have aX:=Aa aL;obtain⟨n,hn⟩:=gX ps.length;rw[hn]at h ⊢;have Hn:=Aa hn;obtain⟨es,a7⟩:∃es:List BE,es.map (fun e=>e.1)=Qe ps:=⟨(Qe ps).attachWith _ (fun e he=>jt aL.2.1 he),Iu _⟩;have aW:=Aa a7;clear hb aL hn;refine(callsIn_wide (n:=5)).1 ?_;refine callsIn_of_wp_marks Tryz.func88 rfl trivial ?_ rfl;simp only[Tryz.ntmps88,List.size_toArray,List.length_cons,List.length_nil,Nat.reduceAdd,Nat.reduceSub,Array.replicate_succ,Array.replicate_zero,List.push_toArray,List.append_toArray,List.nil_append,List.cons_append]
 gi_wp2_with(refine⟨trivial,?_⟩;gi_at_call 148;refine(callsIn_wide.2 (yD _ _ _ _)).mono ?_;rintro e w' ⟨rfl,rfl⟩)
 obtain⟨W0,aa⟩:=gX ((((w.alloc (Ob #[O xa xm xc,Oc xs,O bh bj bi] 63)).alloc (Ob #[O H 0 0,Oc false,O H 0 0] 63)).alloc (Ob #[O a n c] 121)));have bc:Ba w W0:=by rw[<-aa];exact(((eR w).alloc _).alloc _).alloc _
 have cZ:W0.heap.size=w.heap.size+1+1+1:=by rw[<-aa];simp
 have cb:W0.cell? ⟨w.heap.size+1+1,0,H⟩=V (O a n c):=by rw[<-aa,World.cell?_alloc_at _ _ _ _ sM];rfl
 have b7:RB W0 w.heap.size x:=by rw[<-aa];exact(RB.new hx rfl).ext (((eR _).alloc _).alloc _)
 have b8:RB W0 (w.heap.size+1) 0:=by rw[<-aa];exact(RB.new (Ab.zero _) sM).ext ((eR _).alloc _)
 rw[aa];have cO:=Aa aa;clear aa;refine wpIn_rangeFunc_ownH rfl dM (gf:=196) (lb:=#[Oe (V ⟨w.heap.size+1+1,0,H⟩)]) rfl trivial (enters_of Tryz.func196 kM rfl)
  (DE (fun e:BE=>e.1) _ dM (w.heap.size+1+1) w _ _ ps es a7 cb oM h bc) Se.trans (Se.put oM oM) (Below.refl _ _) (fun _=>rfl)
  (mS w x) (kS w x) (Gm (fun s W h=>by have:=h.2.1;omega) (fun s W W' h k=>?hsim)) (fun c=>Gm (fun s W h=>by have:=h.2.2.1;omega) (fun s W W' h k=>?hsimx)) ?h0
  (fun(e:BE) a' W=>∃B,w.heap.size+1+1+1<=B/\W.heap[B]?=V (Ob #[N C e.1.1.1,N C e.1.1.2] 43 (0,0))/\W.heap[B+1]?=V (Ob #[N C e.1.2.1,N C e.1.2.2] 43 (0,0))/\
   a'={ tmps:=#[O a n c,Od #[O xa xm xc,Oc xs,O bh bj bi],undef,Oe (V ⟨w.heap.size,0,H⟩),Oe (V ⟨w.heap.size+1,0,H⟩),Oe (V ⟨B,0,H⟩),Oe (V ⟨B+1,0,H⟩),O a n c,.func (.func 196) #[] #[Oe (V ⟨w.heap.size+1+1,0,H⟩)],Od #[N C e.1.1.1,N C e.1.1.2],Od #[N C e.1.2.1,N C e.1.2.2],undef,undef,undef,undef,undef,undef,undef,undef,undef,undef,undef,undef,undef,undef,undef,undef,undef,undef,undef,undef,undef,undef,undef,undef,undef,undef,undef,undef,undef,undef,undef,undef,undef,undef,undef,undef,undef],defers:=[] })
  (fun e a'=>Gm (fun s W h=>?hAs) (fun s W W' h k=>?hAk)) ?assign ?body ?done ?stop
 case hsim =>
  obtain⟨h1,h2,h3,h4,h5⟩:=h;exact⟨k.ext h1 oM,nT h2 k.size,h3.sim k,h4.sim k,h5⟩
 case hsimx =>
  obtain⟨h0,h1,h2,p',e,h3,h4,h5,h6⟩:=h;exact⟨h0,k.ext h1 oM,nT h2 k.size,p',e,h3,h4,h5,h6.sim k⟩
 case h0=>exact⟨bc,by omega,b7,b8,fun e he=>by cases he⟩
 case hAs =>
  obtain⟨B,h1,h2,h3,_⟩:=h;have:=Gb h2;omega
 case hAk =>
  obtain⟨B,h1,h2,h3,h4⟩:=h;exact⟨B,h1,k.heap h2,k.heap h3,h4⟩
 case assign =>
  rintro l pre e W K ⟨h1,h2,h3,h4,h5⟩ hK;unfold im
  gi_wp2
  refine hK _ _ (((KeepsOthers.alloc _ _).trans (KeepsOthers.alloc _ _)).from _) (((Se.refl _ _ W).ext (((eR W).alloc _).alloc _) h1.size oM)) ⟨(h1.alloc _).alloc _,by simp;omega,h3.ext (((eR W).alloc _).alloc _),h4.ext (((eR W).alloc _).alloc _),h5⟩ ⟨W.heap.size,h2,?_,?_,rfl⟩
  ·rw[Ag,if_neg sM];exact Ec _ _ _ rfl
  ·exact Ec _ _ _ sM
 case body =>
  rintro l pre e a' W hl ⟨r,hr⟩ ⟨h1,h2,h3,h4,h5⟩ ⟨B,hB,q1,q2,rfl⟩ cV;obtain⟨⟨⟨g,j⟩,z,bz⟩,aq⟩:=e;dsimp only at q1 q2 aq ⊢;obtain⟨ya,ym,yc,ys,ab,ad,ac,r0,r1,r2,_,_,_,zr,bg⟩:=h3.rd;have e0:=Ca q1 (i:=0) (u:=N C g) rfl;have e1:=Ca q1 (i:=1) (u:=N C j) rfl;have e2:=Ca q2 (i:=0) (u:=N C z) rfl;have e3:=Ca q2 (i:=1) (u:=N C bz) rfl;have z1:=Gb q1;have z2:=Gb q2
  gi_wp2
  have aJ:Qi w.heap.size B ya ym yc ys ab ad ac g j z bz W:=⟨r0,r1,r2,e0,e1,e2,e3⟩;have bf:Ab W.drew (Od #[O ya ym yc,Oc ys,O ab ad ac]) x:=bg.ext (eR W).drew;have bt:=Aa aJ;refine Zp (S:=Qi w.heap.size B ya ym yc ys ab ad ac g j z bz) kM kM (aJ.ext (eR W).drew) (fun f=>?_);clear r0 r1 r2 e0 e1 e2 e3 aJ;refine Ad (i:=0) (oi:=?oix1) ?hix1 ?hx1
  case hix1=>(simp only[gA,gS,gZ];rfl)
  refine⟨?_,by kernel_rfl,by kernel_rfl,by kernel_rfl,fun _ _ _ h=>h,Or.inl ⟨by rfl,?_⟩,by assumption,?_⟩;rotate_left 1
  ·(intro w d;rcases d with ⟨s0,s1,t,y,s4,s5,s6⟩;go_simp;try(with_reducible rfl))
  (try simp only[Act.put,sA,sZ,sS]);refine Ad (i:=1) (oi:=?oix2) ?hix2 ?hx2
  case hix2=>(simp only[gA,gS,gZ];rfl)
  refine⟨?_,by kernel_rfl,by kernel_rfl,by kernel_rfl,fun _ _ _ h=>h,Or.inl ⟨by rfl,?_⟩,by assumption,?_⟩;rotate_left 1
  ·(intro w d;rcases d with ⟨s0,s1,t,y,s4,s5,s6⟩;go_simp;try(with_reducible rfl))
  (try simp only[Act.put,sA,sZ,sS]);refine Ad (i:=2) (oi:=?oix3) ?hix3 ?hx3
  case hix3=>(simp only[gA,gS,gZ];rfl)
  refine⟨?_,by kernel_rfl,by kernel_rfl,by kernel_rfl,fun _ _ _ h=>h,Or.inl ⟨by rfl,?_⟩,by assumption,?_⟩;rotate_left 1
  ·(intro w d;rcases d with ⟨s0,s1,t,y,s4,s5,s6⟩;go_simp;try(with_reducible rfl))
  (try simp only[Act.put,sA,sZ,sS]);obtain⟨an,ao,ap,bW⟩:=aq;obtain⟨T,hT⟩:=gX (Eb x ((z:Int):Rat));have HT:=Aa hT;have aY:=Rg ap;have a6:=fun W=>nl W z (by unfold Bd at ap;omega) (by unfold Bd at ap;omega);have bw:=Aa a6;clear a6 hT;refine Ub (i:=3) (bw.o _) ?_;rintro e w3 ⟨v3,rfl,bb,hx3⟩;obtain⟨a3,m3,c3,y,b3,n3,k3,rfl⟩:=bb.form;refine⟨_,rfl,(Qi.ext (by assumption) hx3),fun f=>?_⟩;have aK:=Qj w3 (Od #[O ya ym yc,Oc ys,O ab ad ac]) (Od #[O a3 m3 c3,Oc y,O b3 n3 k3]) x ((z:Int):Rat) (bf.ext hx3) bb (Hb.o.mono dM) (aY.mono dM);rw[HT.o]at aK;have bA:=Aa aK;clear aK;refine Ub (i:=4) bA.o ?_;rintro e w4 ⟨rfl,hx4⟩;refine⟨_,rfl,(Qi.ext (by assumption) hx4),fun f=>?_⟩;refine Ad (i:=5) (oi:=?oix4) ?hix4 ?hx4
  case hix4=>(simp only[gA,gS,gZ];rfl)
  refine⟨?_,by kernel_rfl,by kernel_rfl,by kernel_rfl,fun _ _ _ h=>h,Or.inl ⟨by rfl,?_⟩,by assumption,?_⟩;rotate_left 1
  ·(intro w d;rcases d with ⟨s0,s1,t,y,s4,s5,s6⟩;go_simp;try(with_reducible rfl))
  (try simp only[Act.put,sA,sZ,sS]);refine wpAnyH_done kM ?_ _;have X4:Ba W w4:=((eR W).drew.trans hx3).trans hx4;have b9:=bt.o.ext X4;have aG:=h4.ext X4;have cS:w.heap.size+1+1+1<=w4.heap.size:=nT h2 X4.size;by_cases a4:T<=0
  ·have R:Oh x ((g,j),z,bz)=true:=by unfold Oh;rw[HT.o];simpa using a4
   have aE:=Aa R;have bu:=Aa X4;have bk:=Aa aG;have be:Ab w4.drew (Od #[O ya ym yc,Oc ys,O ab ad ac]) x:=bg.ext X4.drew;have bC:=Aa be;clear R X4 aG be f bf;unfold NQ
   gi_wp2
   refine Zp (S:=Qi w.heap.size B ya ym yc ys ab ad ac g j z bz) kM kM (b9.ext (eR w4).drew) (fun f=>?_);have d1:Bd 1000000 (bz-j)/\Bd 1000000 (z-g):=⟨(bW.sub ao).mono dM,(ap.sub an).mono dM⟩;have g1:IntKind.i64.wrap (bz-j)=bz-j:=iW _ ⟨by unfold Bd at d1;omega,by unfold Bd at d1;omega⟩;have g2:IntKind.i64.wrap (z-g)=z-g:=iW _ ⟨by unfold Bd at d1;omega,by unfold Bd at d1;omega⟩;have Q1:=Rg (k:=104000) (n:=g) an;have Q2:=Rg (k:=104000) (n:=j) ao;have Q3:Rb 1 ((bz-j:Int):Rat):=Rg d1.1;have Q4:Rb 1 ((z-g:Int):Rat):=Rg d1.2;have Q5:=Hb.o.sub (Q1.mono (k:=1000) dM);have Q6:=Q5.mul Q3;have Q7:=Q6.div Q4 dM;have bm:=Aa Q1;have bn:=Aa Q2;have bo:=Aa Q3;have bp:=Aa Q4;have bq:=Aa Q5;have br:=Aa Q6;have bs:=Aa Q7;have Ha:=Aa (fun W=>nl W j (by unfold Bd at ao;omega) (by unfold Bd at ao;omega));have Hc:=Aa (fun W=>nl W g (by unfold Bd at an;omega) (by unfold Bd at an;omega));have Hd:=Aa (fun W=>nl W (bz-j) (by unfold Bd at d1;omega) (by unfold Bd at d1;omega));have He:=Aa (fun W=>nl W (z-g) (by unfold Bd at d1;omega) (by unfold Bd at d1;omega));clear Q1 Q2 Q3 Q4 Q5 Q6 Q7 aY;refine Ad (i:=0) (oi:=?oix5) ?hix5 ?hx5
   case hix5=>(simp only[gA,gS,gZ];rfl)
   refine⟨?_,by kernel_rfl,by kernel_rfl,by kernel_rfl,fun _ _ _ h=>h,Or.inl ⟨by rfl,?_⟩,by assumption,?_⟩;rotate_left 1
   ·(intro w d;rcases d with ⟨s0,s1,t,y,s4,s5,s6⟩;go_simp;try(with_reducible rfl))
   (try simp only[Act.put,sA,sZ,sS]);refine Ad (i:=1) (oi:=?oix6) ?hix6 ?hx6
   case hix6=>(simp only[gA,gS,gZ];rfl)
   refine⟨?_,by kernel_rfl,by kernel_rfl,by kernel_rfl,fun _ _ _ h=>h,Or.inl ⟨by rfl,?_⟩,by assumption,?_⟩;rotate_left 1
   ·(intro w d;rcases d with ⟨s0,s1,t,y,s4,s5,s6⟩;go_simp;try(with_reducible rfl))
   (try simp only[Act.put,sA,sZ,sS]);refine Ad (i:=3) (oi:=?oix7) ?hix7 ?hx7
   case hix7=>(simp only[gA,gS,gZ];rfl)
   refine⟨?_,by kernel_rfl,by kernel_rfl,by kernel_rfl,fun _ _ _ h=>h,Or.inl ⟨by rfl,?_⟩,by assumption,?_⟩;rotate_left 1
   ·(intro w d;rcases d with ⟨s0,s1,t,y,s4,s5,s6⟩;go_simp;try(with_reducible rfl))
   (try simp only[Act.put,sA,sZ,sS]);refine Ad (i:=4) (oi:=?oix8) ?hix8 ?hx8
   case hix8=>(simp only[gA,gS,gZ];rfl)
   refine⟨?_,by kernel_rfl,by kernel_rfl,by kernel_rfl,fun _ _ _ h=>h,Or.inl ⟨by rfl,?_⟩,by assumption,?_⟩;rotate_left 1
   ·(intro w d;rcases d with ⟨s0,s1,t,y,s4,s5,s6⟩;go_simp;try(with_reducible rfl))
   (try simp only[Act.put,sA,sZ,sS]);refine Ad (i:=5) (oi:=?oix9) ?hix9 ?hx9
   case hix9=>(simp only[gA,gS,gZ];rfl)
   refine⟨?_,by kernel_rfl,by kernel_rfl,by kernel_rfl,fun _ _ _ h=>h,Or.inl ⟨by rfl,?_⟩,by assumption,?_⟩;rotate_left 1
   ·(intro w d;rcases d with ⟨s0,s1,t,y,s4,s5,s6⟩;go_simp;try(with_reducible rfl))
   (try simp only[Act.put,sA,sZ,sS]);refine Ad (i:=8) (oi:=?oix10) ?hix10 ?hx10
   case hix10=>(simp only[gA,gS,gZ];rfl)
   refine⟨?_,by kernel_rfl,by kernel_rfl,by kernel_rfl,fun _ _ _ h=>h,Or.inl ⟨by rfl,?_⟩,by assumption,?_⟩;rotate_left 1
   ·(intro w d;rcases d with ⟨s0,s1,t,y,s4,s5,s6⟩;go_simp;try(with_reducible rfl))
   (try simp only[Act.put,sA,sZ,sS]);refine Ad (i:=9) (oi:=?oix11) ?hix11 ?hx11
   case hix11=>(simp only[gA,gS,gZ];rfl)
   refine⟨?_,by kernel_rfl,by kernel_rfl,by kernel_rfl,fun _ _ _ h=>h,Or.inl ⟨by rfl,?_⟩,by assumption,?_⟩;rotate_left 1
   ·(intro w d;rcases d with ⟨s0,s1,t,y,s4,s5,s6⟩;go_simp;try(with_reducible rfl))
   (try simp only[Act.put,sA,sZ,sS]);refine Ad (i:=10) (oi:=?oix12) ?hix12 ?hx12
   case hix12=>(simp only[gA,gS,gZ];rfl)
   refine⟨?_,by kernel_rfl,by kernel_rfl,by kernel_rfl,fun _ _ _ h=>h,Or.inl ⟨by rfl,?_⟩,by assumption,?_⟩;rotate_left 1
   ·(intro w d;rcases d with ⟨s0,s1,t,y,s4,s5,s6⟩;go_simp;try(with_reducible rfl))
   (try simp only[Act.put,sA,sZ,sS]);refine Ad (i:=11) (oi:=?oix13) ?hix13 ?hx13
   case hix13=>(simp only[gA,gS,gZ];rfl)
   refine⟨?_,by kernel_rfl,by kernel_rfl,by kernel_rfl,fun _ _ _ h=>h,Or.inl ⟨by rfl,?_⟩,by assumption,?_⟩;rotate_left 1
   ·(intro w d;rcases d with ⟨s0,s1,t,y,s4,s5,s6⟩;go_simp;try(with_reducible rfl))
   (try simp only[Act.put,sA,sZ,sS]);refine Ad (i:=12) (oi:=?oix14) ?hix14 ?hx14
   case hix14=>(simp only[gA,gS,gZ];rfl)
   refine⟨?_,by kernel_rfl,by kernel_rfl,by kernel_rfl,fun _ _ _ h=>h,Or.inl ⟨by rfl,?_⟩,by assumption,?_⟩;rotate_left 1
   ·(intro w d;rcases d with ⟨s0,s1,t,y,s4,s5,s6⟩;go_simp;try(with_reducible rfl))
   (try simp only[Act.put,sA,sZ,sS]);refine Ad (i:=15) (oi:=?oix15) ?hix15 ?hx15
   case hix15=>(simp only[gA,gS,gZ];rfl)
   refine⟨?_,by kernel_rfl,by kernel_rfl,by kernel_rfl,fun _ _ _ h=>h,Or.inl ⟨by rfl,?_⟩,by assumption,?_⟩;rotate_left 1
   ·(intro w d;rcases d with ⟨s0,s1,t,y,s4,s5,s6⟩;go_simp;try(with_reducible rfl))
   (try simp only[Act.put,sA,sZ,sS]);refine Ad (i:=16) (oi:=?oix16) ?hix16 ?hx16
   case hix16=>(simp only[gA,gS,gZ];rfl)
   refine⟨?_,by kernel_rfl,by kernel_rfl,by kernel_rfl,fun _ _ _ h=>h,Or.inl ⟨by rfl,?_⟩,by assumption,?_⟩;rotate_left 1
   ·(intro w d;rcases d with ⟨s0,s1,t,y,s4,s5,s6⟩;go_simp;try(with_reducible rfl))
   (try simp only[Act.put,sA,sZ,sS]);refine Ad (i:=17) (oi:=?oix17) ?hix17 ?hx17
   case hix17=>(simp only[gA,gS,gZ];rfl)
   refine⟨?_,by kernel_rfl,by kernel_rfl,by kernel_rfl,fun _ _ _ h=>h,Or.inl ⟨by rfl,?_⟩,by assumption,?_⟩;rotate_left 1
   ·(intro w d;rcases d with ⟨s0,s1,t,y,s4,s5,s6⟩;go_simp;try(with_reducible rfl))
   (try simp only[Act.put,sA,sZ,sS]);refine Ad (i:=18) (oi:=?oix18) ?hix18 ?hx18
   case hix18=>(simp only[gA,gS,gZ];rfl)
   refine⟨?_,by kernel_rfl,by kernel_rfl,by kernel_rfl,fun _ _ _ h=>h,Or.inl ⟨by rfl,?_⟩,by assumption,?_⟩;rotate_left 1
   ·(intro w d;rcases d with ⟨s0,s1,t,y,s4,s5,s6⟩;go_simp;try(with_reducible rfl))
   (try simp only[Act.put,sA,sZ,sS]);refine Ad (i:=19) (oi:=?oix19) ?hix19 ?hx19
   case hix19=>(simp only[gA,gS,gZ];rfl)
   refine⟨?_,by kernel_rfl,by kernel_rfl,by kernel_rfl,fun _ _ _ h=>h,Or.inl ⟨by rfl,?_⟩,by assumption,?_⟩;rotate_left 1
   ·(intro w d;rcases d with ⟨s0,s1,t,y,s4,s5,s6⟩;go_simp;try(with_reducible rfl))
   (try simp only[Act.put,sA,sZ,sS]);refine Ub (i:=2) (Ha.o _) ?_;rintro e de ⟨c6,rfl,ar,aj⟩;obtain⟨bG,cj,bX,cB,bN,cq,cc,rfl⟩:=ar.form;refine⟨_,rfl,(Qi.ext (by assumption) aj),fun f=>?_⟩;refine Ub (i:=6) (Hc.o _) ?_;rintro e cJ ⟨c7,rfl,au,ae⟩;obtain⟨bH,ck,bY,cC,bO,cr,cd,rfl⟩:=au.form;refine⟨_,rfl,(Qi.ext (by assumption) ae),fun f=>?_⟩;have K7:=Aa (Pp cJ (Od #[O ya ym yc,Oc ys,O ab ad ac]) (Od #[O bH ck bY,Oc cC,O bO cr cd]) x ((g:Int):Rat) (bC.o.ext (aj.trans ae)) au (Hb.o.mono dM) (bm.o.mono dM));refine Ub (i:=7) K7.o ?_;rintro e dg ⟨c8,rfl,av,ak⟩;obtain⟨bI,cl,bZ,cD,bP,cs,ce,rfl⟩:=av.form;refine⟨_,rfl,(Qi.ext (by assumption) ak),fun f=>?_⟩;refine Ub (i:=13) (Hd.o _) ?_;rintro e cK ⟨c9,rfl,aw,af⟩;obtain⟨bJ,cm,b0,cF,bQ,ct,cf,rfl⟩:=aw.form;refine⟨_,rfl,(Qi.ext (by assumption) af),fun f=>?_⟩;have bD:=Aa (nB cK (Od #[O bI cl bZ,Oc cD,O bP cs ce]) (Od #[O bJ cm b0,Oc cF,O bQ ct cf]) (x-((g:Int):Rat)) ((bz-j:Int):Rat) (av.ext af) aw (bq.o.mono dM) (bo.o.mono dM));refine Ub (i:=14) bD.o ?_;rintro e dh ⟨da,rfl,ay,al⟩;obtain⟨bK,cn,b1,cG,bT,cu,cg,rfl⟩:=ay.form;refine⟨_,rfl,(Qi.ext (by assumption) al),fun f=>?_⟩;refine Ub (i:=20) (He.o _) ?_;rintro e cL ⟨db,rfl,aA,ag⟩;obtain⟨bL,co,b4,cH,bU,cv,ch,rfl⟩:=aA.form;refine⟨_,rfl,(Qi.ext (by assumption) ag),fun f=>?_⟩;have bE:=Aa (GC cL (Od #[O bK cn b1,Oc cG,O bT cu cg]) (Od #[O bL co b4,Oc cH,O bU cv ch]) ((x-((g:Int):Rat))*((bz-j:Int):Rat)) ((z-g:Int):Rat) (ay.ext ag) aA (br.o.mono dM) (bp.o.mono dM));refine Ub (i:=21) bE.o ?_;rintro e cN ⟨dc,rfl,aB,am⟩;obtain⟨bM,cp,b5,cI,bV,cw,ci,rfl⟩:=aB.form;refine⟨_,rfl,(Qi.ext (by assumption) am),fun f=>?_⟩;have bF:=Aa (ow cN (Od #[O bG cj bX,Oc cB,O bN cq cc]) (Od #[O bM cp b5,Oc cI,O bV cw ci]) ((j:Int):Rat) (((x-((g:Int):Rat))*((bz-j:Int):Rat))/((z-g:Int):Rat)) (ar.ext (((((ae.trans ak).trans af).trans al).trans ag).trans am)) aB (bn.o.mono dM) (bs.o.mono dM));refine Ub (i:=22) bF.o ?_;rintro e aV ⟨dd,rfl,aC,aD⟩;obtain⟨cP,c1,cR,c5,cQ,c4,c0,rfl⟩:=aC.form;refine⟨_,rfl,(Qi.ext (by assumption) aD),fun f=>?_⟩;have aZ:Ba w4.drew aV:=((((((aj.trans ae).trans ak).trans af).trans al).trans ag).trans am).trans aD;have aH:=bk.o.ext ((eR w4).drew.trans aZ);obtain⟨_,_,_,_,_,_,_,o0,o1,o2,cx,cy,cz,zo,_⟩:=aH.rd;have bl:=Aa aH;clear aH;have cY:¬w.heap.size+1=w.heap.size:=oM;have cX:¬w.heap.size+1=B/\¬w.heap.size+1=B+1:=⟨by omega,by omega⟩;have a5:Oi x ((g,j),z,bz)=((j:Int):Rat)+((x-((g:Int):Rat))*((bz-j:Int):Rat))/((z-g:Int):Rat):=rfl;have bv:=Aa a5;clear a5;refine Ld (i:=23) fun K hK=>?_;go_simp;refine kO hK ((((show Qi w.heap.size B ya ym yc ys ab ad ac g j z bz aV by assumption).set dO dO dO _).set dO dO dO _).set dO dO dO _) (fun _=>?_);clear hK K;refine wpAnyH_done kM ?_ _;unfold NQ
   gi_wp2
   have X9:Ba W aV:=bu.o.trans ((eR w4).drew.trans aZ);refine⟨(((Uo X9).trans ((KeepsOthers.setCell _ _ _).from _)).trans ((KeepsOthers.setCell _ _ _).from _)).trans ((KeepsOthers.setCell _ _ _).from _),rfl,(((h1.trans X9).set dO _).set dO _).set dO _,by simp only[Bg];exact nT h2 X9.size,pre,_,rfl,h5,aE.o,?_⟩;dsimp only;rw[bv.o];exact bl.o.put aC
  ·have R:Oh x ((g,j),z,bz)=false:=by unfold Oh;rw[HT.o];simpa using a4
   have cU:0<T:=oM;have aE:=Aa R;clear R;unfold NQ
   gi_wp2
   refine⟨Uo X4,(Se.refl w _ W).ext X4 h1.size oM,h1.trans X4,nT h2 X4.size,h3.ext X4,aG,fun e he=>?_⟩;rcases List.mem_append.1 he with he|he
   ·exact h5 e he
   ·rw[List.mem_singleton.1 he];exact aE.o
 case done =>
  rintro D ys W hD rfl ⟨h1,h2,h3,h4,h5⟩ hK;obtain⟨m,rfl⟩:∃m,n=m+1:=⟨n-1,by have:=List.length_pos_iff.2 aX.o.1;rw[Hn.o]at this;omega⟩;obtain⟨⟨qx,qz⟩,hq⟩:∃q,ps[m]?=V q:=⟨ps[m]'(by rw[Hn.o];omega),by simp⟩;obtain⟨b,o,rfl,hb,d0,d1⟩:=(h.f h1).at' hq;have hR:Yd ps x=((qz:Int):Rat):=EL aW.o h5 (q:=(qx,qz)) (by rw[Hn.o];exact hq);have ai:=aX.o.2.1 (qx,qz) (lM hq);have a8:=fun W=>nl W qz (by unfold Bd at ai;dsimp only at ai;omega) (by unfold Bd at ai;dsimp only at ai;omega);have R:=h.le;have cW:m+1<=9223372036854775807:=by rw[Hn.o]at R;unfold maxLen at R;omega
  have bB:=Aa a8;have aF:=Aa hR;have p1:(0:Int)<=(m:Int):=oM;have p2:(m:Int)<((m+1:Nat):Int):=oM;have u1:((m+1:Nat):Int)-1=(m:Int):=oM;have zD:D<W.heap.size:=Gb hK;clear a8 hR hq ai R
  gi_wp2_with(refine⟨trivial,?_⟩;gi_at_call 85;(with_reducible refine(callsIn_wide.2 (bB.o _)).mono ?_);rintro e w2 ⟨r2,rfl,ba,hx2⟩;obtain⟨a2,m2,c2,t,b2,n2,k2,rfl⟩:=ba.form;have a1:=h4.ext hx2;obtain⟨_,_,_,_,_,_,_,o0,o1,o2,cx,cy,cz,zo,_⟩:=a1.rd;have b6:=hx2.e hK)
  have hP:=a1.put ba;have cT:¬D=w.heap.size+1:=oM;have a0:(((w2.setCell ⟨w.heap.size+1,0,H⟩ (O a2 m2 c2)).setCell ⟨w.heap.size+1,1,H⟩ (Oc t)).setCell ⟨w.heap.size+1,2,H⟩ (O b2 n2 k2)).heap[D]?=V (.deferred (V [])):=by
   rw[bS _ _ _ _ dO,bS _ _ _ _ dO,bS _ _ _ _ dO];exact b6
  have ca:Ba w (((w2.setCell ⟨w.heap.size+1,0,H⟩ (O a2 m2 c2)).setCell ⟨w.heap.size+1,1,H⟩ (Oc t)).setCell ⟨w.heap.size+1,2,H⟩ (O b2 n2 k2)):=
   (((h1.trans hx2).set dO _).set dO _).set dO _
  have ah:=ov a0 (.deferred H);have aI:=hP.sim ah;obtain⟨pa,pm,aP,aR,aM,aQ,aO,aS,aT,aU,_,_,_,_,hz⟩:=aI.rd;refine⟨by simp,.inl ⟨_,_,rfl,run_takeDeferred a0,?_⟩⟩;refine⟨Od #[O pa pm aP,Oc aR,O aM aQ aO],by simp[results,Tryz.results88,go_sem,aS,aT,aU],?_⟩;rw[aF.o];exact⟨_,rfl,hz,ah.ext ca oM⟩
 case stop =>
  rintro D c pre W hD a9 ⟨rfl,h1,h2,p',e,rfl,h4,h5,h6⟩ hK;have hR:=pG aW.o a9 h4 h5;have aF:=Aa hR;clear hR
  gi_wp2
  have ah:=ov hK (.deferred H);have aI:=h6.sim ah;obtain⟨pa,pm,aP,aR,aM,aQ,aO,aS,aT,aU,_,_,_,_,hz⟩:=aI.rd;refine⟨by simp,.inl ⟨_,_,rfl,run_takeDeferred hK,?_⟩⟩;refine⟨Od #[O pa pm aP,Oc aR,O aM aQ aO],by simp[results,Tryz.results88,go_sem,aS,aT,aU],?_⟩;rw[aF.o];exact⟨_,rfl,hz,ah.ext h1 oM⟩
end
section
open Go.RowKit Go.Shelf
def Pr(a:List Nat):List Deferred:=a.map fun D=>{ target:=.collected D,args:=#[] }
def me(W:I)(a:List Nat):Prop:=a.Nodup/\∀D∈a,W.heap[D]?=V (.deferred (V []))
def Ex{n:Nat}{P:Program}{f:Func}{tmps:Array Oa}{R:Ending->I->Prop}:∀(a:List Nat)(W:I),me W a ->(∀W':I,(∀B,(∀D∈a,B<=D)->Dj B W W')->LeavesInM Fence.wide n P f tmps R [] .returning W')->LeavesInM Fence.wide n P f tmps R (Pr a) .returning W
 | [],W,_,h=>h W (fun B _=>⟨Below.refl _ _,fun _ _ h _=>h⟩)
 | D::a,W,hm,h=>by
  have j:=hm.2 D sM;have m:=ov j (.deferred H);refine⟨by simp,.inl ⟨D,_,rfl,run_takeDeferred j,?_⟩⟩;refine Ex a _ ⟨(List.nodup_cons.1 hm.1).2,fun E b=>?_⟩ (fun W' c=>h W' (fun B i=>?_))
  ·have d:E≠D:=fun e=>(List.nodup_cons.1 hm.1).1 (e▸b);rw[World.putObj_heap_other d];exact hm.2 E (mC _ b)
  ·have g:=c B (fun E b=>i E (mC _ b));exact⟨(Below.mono m.1 (i D sM)).trans g.1,fun k o q l=>g.2 k o (m.2 k o q l) l⟩
