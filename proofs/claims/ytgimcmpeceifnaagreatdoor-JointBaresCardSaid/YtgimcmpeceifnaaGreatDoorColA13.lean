import Derived.Test.YtgimcmpeceifnaaGreatDoorColA12
set_option maxRecDepth 1000000
set_option maxHeartbeats 16000000
set_option linter.all false
open Go.Value renaming int->O,slice->J,pointer->M
open Go.IntKind renaming i64->Y
open Go renaming Value->Z,World->I
open Option renaming none->X,some->V
namespace Go.Proofs.YtgimcmpeceifnaaGreatDoor.Cop
section
open Go Go.ChangeShapes Go.WideShapes Go.ChangeAt Go.RowKit
set_option maxRecDepth 100000
def LT:(Rows.jointListsRow.inPlace==Tryz.prog.inPlace 3)=true:=kM
def KT:(Rows.jointListsRow.unfollowed==Tryz.prog.unfollowed 3)=true:=kM
def JT:(Rows.jointListsRow.recurses==Tryz.prog.recurses 3)=true:=kM
def IT:(Rows.jointListsRow.named==Tryz.prog.varsNamed 3)=true:=kM
def GT:mapsRowed Tryz.prog=true:=kM
def FT:Tryz.prog.stopsHeard=true:=kM
def ET:Tryz.prog.mayEnter=true:=kM
def Lt:joinedFacts Tryz.prog 3 Tryz.f3 Rows.jointListsSpec Rows.jointListsRow=true:=by unfold joinedFacts;rw[LT,KT,JT,IT,GT,FT,ET,jy];kernel_rfl
set_option maxRecDepth 100000
def ST:Tryz.prog.mainIs=V (true, "0b56b37d40a0a025b95ec2492357019a609518001105f8d0db719b6fc7ceb768".toList):=kM
def RT:Tryz.prog.funcNamed "copestone/copestonelaw05.JointLists"=V 3:=kM
def QT:([25,27].all fun u=>!Tryz.prog.wantsStandIn u)=true:=kM
def PT:false=Rows.jointListsRow.goesBy Tryz.prog:=kM
def OT:false=Tryz.prog.looks []:=kM
end
section
open Go.RowKit Go.Shelf Go.Sort
def qS(w:I)(r:ByteArray)(v:Z)(R:LP)(d k l m y s t x:Int)(h:Ab w v R)(ab:R.length<=1000):Calls Tryz.prog 40 #[.agg #[.string r,v,O Y d,O Y k,O Y l,O Y m,O Y y,O Y s,O Y t,O .u8 x]] w fun e w'=>∃v',e=.returned (.agg #[.string r,v',O Y d,O Y k,O Y l,O Y m,O Y y,O Y s,O Y t,O .u8 x])/\Ja w' v' R/\Ba w w'/\∀j,v'.ownBlock=V j->w.heap.size<=j:=by
 have HP:=Aa (fun W (hW:Ba w W)=>DN W r v R d k l m (h.f hW) ab);obtain⟨a,n,c,rfl⟩:=h.i;clear h;go_in;go_wp2;refine od [(⟨w.heap.size,0,X⟩,.string r),(⟨w.heap.size,1,X⟩,J a n c),(⟨w.heap.size,2,X⟩,O Y d),(⟨w.heap.size,3,X⟩,O Y k),(⟨w.heap.size,4,X⟩,O Y l),(⟨w.heap.size,5,X⟩,O Y m),(⟨w.heap.size,6,X⟩,O Y y),(⟨w.heap.size,7,X⟩,O Y s),(⟨w.heap.size,8,X⟩,O Y t),(⟨w.heap.size,9,X⟩,O .u8 x)] cA fun g=>?_;refine sN 0 ?_
 iterate 2 refine ub ?_
 refine oN ?_;refine sN 3 ?_
 iterate 11 refine ub ?_
 refine oN ?_;refine mc (i:=2) (HP.o _ eA) ?_;rintro e w3 ⟨v3,rfl,L,o,ac⟩;obtain⟨a3,n3,c3,rfl⟩:=Ma L;refine⟨_,rfl,(cE g o),fun g=>?_⟩;refine Qa (i:=14) ?_;have f:=o.e (Gy w (.cells #[.string r,J a n c,O Y d,O Y k,O Y l,O Y m,O Y y,O Y s,O Y t,O .u8 x] 78) (.cells #[.string ⟨#[]⟩,J X 0 0,O Y 0,O Y 0,O Y 0,O Y 0,O Y 0,O Y 0,O Y 0,O .u8 0] 95));have k0:=Da f (i:=0) (u:=.string ⟨#[]⟩) rfl;have k1:=Da f (i:=1) (u:=J X 0 0) rfl;have k2:=Da f (i:=2) (u:=O Y 0) rfl;have k3:=Da f (i:=3) (u:=O Y 0) rfl;have k4:=Da f (i:=4) (u:=O Y 0) rfl;have k5:=Da f (i:=5) (u:=O Y 0) rfl;have k6:=Da f (i:=6) (u:=O Y 0) rfl;have k7:=Da f (i:=7) (u:=O Y 0) rfl;have k8:=Da f (i:=8) (u:=O Y 0) rfl;have k9:=Da f (i:=9) (u:=O .u8 0) rfl;have kf:=Za f;have b:=Aa (show ∀q∈[((⟨w.heap.size,0,X⟩:Addr),Value.string r),(⟨w.heap.size,1,X⟩,J a n c),(⟨w.heap.size,2,X⟩,O Y d),(⟨w.heap.size,3,X⟩,O Y k),(⟨w.heap.size,4,X⟩,O Y l),(⟨w.heap.size,5,X⟩,O Y m),(⟨w.heap.size,6,X⟩,O Y y),(⟨w.heap.size,7,X⟩,O Y s),(⟨w.heap.size,8,X⟩,O Y t),(⟨w.heap.size,9,X⟩,O .u8 x)],w.heap.size+1≠q.1.block from fun q hq h=>by
  simp at hq;rcases hq with rfl|rfl|rfl|rfl|rfl|rfl|rfl|rfl|rfl|rfl<;>(dsimp only at h;omega))
 have aa:Ba w w3:=((((eR w).alloc _).alloc _).drew).trans o;have z:=Aa f;clear f;refine ye (i:=15) fun K hK=>?_;go_simp;refine kO hK (Ea.set (p:=⟨w.heap.size+1,9,X⟩) (Ea.set (p:=⟨w.heap.size+1,8,X⟩) (Ea.set (p:=⟨w.heap.size+1,7,X⟩) (Ea.set (p:=⟨w.heap.size+1,6,X⟩) (Ea.set (p:=⟨w.heap.size+1,5,X⟩) (Ea.set (p:=⟨w.heap.size+1,4,X⟩) (Ea.set (p:=⟨w.heap.size+1,3,X⟩) (Ea.set (p:=⟨w.heap.size+1,2,X⟩) (Ea.set (p:=⟨w.heap.size+1,1,X⟩) (Ea.set (p:=⟨w.heap.size+1,0,X⟩) g b.o _) b.o _) b.o _) b.o _) b.o _) b.o _) b.o _) b.o _) b.o _) b.o _) (fun g=>?_);clear hK K;refine Tb ?_;go_wp2;have ae:=Ya z.o;have ad:Ja w3 (J a3 n3 c3) R:=L;have n0:sd 91 w3 (w.heap.size+1):=by intro cs fr e;rw[z.o]at e;cases e
 refine bR (v:=.agg #[.string r,J a3 n3 c3,O Y d,O Y k,O Y l,O Y m,O Y y,O Y s,O Y t,O .u8 x]) (by simp[results,Tryz.results40,go_sem,k0,k1,k2,k3,k4,k5,k6,k7,k8,k9,kf]) rfl ⟨_,rfl,?_,?_,fun j hj=>by have:=ac j hj;simp only[wZ,Yb]at this;omega⟩
 ·refine ad.E ?_
  repeat(first|with_reducible exact Ka.refl _ _|(with_reducible refine Ka.y ?_ ?_ _)|with_reducible exact n0|with_reducible refine sd.set ?_ _ _)
 ·repeat(first|with_reducible exact aa|(with_reducible refine Ba.set ?_ dO _))
def Nf(r:Ru)(j:JS):Bool:=j.p.skin==r.skin || j.p.skin==3
def Pb(r:Ru)(ps:List Pl):List JS:=(Me ps).filter (Nf r)
def pe(a b:JS):Jt:=⟨a.k,b.k,a.x.2,b.x.1,max a.z.1 b.z.1,min a.z.2 b.z.2⟩
def Ed(r:Ru)(c:List JS)(a b:JS):Bool:=(a.k != b.k)&&(decide ((pe a b).left<=(pe a b).right)&&(decide ((pe a b).right-(pe a b).left<=r.wide)&&(decide ((pe a b).fr<(pe a b).til)&&!Td c (pe a b))))
def Qg(r:Ru)(b:List JS)(a:JS):List Jt:=(b.filter (Ed r b a)).map (pe a)
def oh(r:Ru)(a:List JS):List Jt:=a.flatMap (Qg r a)
def Yo(r:Ru)(L:List Jt)(rs:List Int)(k:Nat)(a:Int):Int:=(ik r L k).foldl (fun o i=>min o (rs.getD i 0)) a
def Pc(r:Ru)(L:List Jt):Nat->List Int
 | 0=>[]
 | k+1=>Pc r L k++[match L[k]? with|some j=>Yo r L (Pc r L k) k j.fr|none=>0]
def Dv(r:Ru)(L:List Jt):∀k,(Pc r L k).length=k
 | 0=>rfl
 | k+1=>by rw[Pc,lA,Dv r L k];rfl
structure Sv (w:I) (sb:Nat) (r:Ru) (vg vp vs vj vr:Z) (ks:List (JS×Z)) (L:List Jt) (rs:List Int):Prop where
 blk:w.heap[sb]?=V (.cells (pj r vg vp vs vj vr) 89 (0,0))
 skin:Fe w vs ks
 pts:∀j∈ks,Ja w j.2 j.1.p.shape
 joints:Re w vj L
 roots:Ae w vr rs
def Sv.ext{w w':I}{a:Nat}{r:Ru}{b d f c e:Z}{ks:List (JS×Z)}{L:List Jt}{rs:List Int}(h:Sv w a r b d f c e ks L rs)(k:Ba w w'):Sv w' a r b d f c e ks L rs:=
 ⟨k.e h.blk,h.skin.f k,fun j g=>(h.pts j g).f k,h.joints.f k,h.roots.f k⟩
def Ch(g:LP)(ps:List Pl)(r:Ru):Int:=if Fb g ps=0 then Lb r else Fb g ps
structure On (r:Ru) (ps:List Pl) (ks:List (JS×Z)) (L:List Jt) (rs:List Int):Prop where
 skin:ks.map Prod.fst=Pb r ps
 perm:L.Perm (oh r (Pb r ps))
 ord:L.Pairwise (fun a b=>¬Ug b a<0)
 roots:rs=Pc r L L.length
def Oi(w:I)(a b:Z)(g:LP)(ps:List Pl)(r:Ru)(e:Ending)(w':I):Prop:=
 (Ch g ps r≠0/\e=.returned (.tuple #[.pointer X,O Y (Ch g ps r)])/\Ba w w') \/
 (Ch g ps r=0/\∃sb vs vj vr ks L rs,e=.returned (.tuple #[M (V ⟨sb,0,X⟩),O Y 0])/\Sv w' sb r a b vs vj vr ks L rs/\On r ps ks L rs/\Ba w w')
def Fe.keep{w w':I}{v:Z}{js:List (JS×Z)}(h:Fe w v js)(k:Ka 113 w w'):Fe w' v js:=by obtain⟨a,b,d,e,f⟩:=h;exact⟨a,b,d,e.keep k,fun i c x g j=>f i c x g j⟩
def Re.keep{w w':I}{v:Z}{l:List Jt}(h:Re w v l)(k:Ka 82 w w'):Re w' v l:=by obtain⟨a,b,d,e,f⟩:=h;exact⟨a,b,d,e.keep k,fun i c x g j=>f i c x g j⟩
def Ae.keep{w w':I}{v:Z}{l:List Int}(h:Ae w v l)(k:Ka 3 w w'):Ae w' v l:=by obtain⟨a,b,d,e,f⟩:=h;exact⟨a,b,d,e.keep k,fun i c x g j=>f i c x g j⟩
def qJ{j:JS×Z}(h:∃a n c,j.2=J a n c):∀u∈jc j,u.oneCell'=true:=by obtain⟨j,v⟩:=j;obtain⟨a,n,c,rfl⟩:=h;intro u b;simp[jc,qh]at b;rcases b with rfl|rfl|rfl|rfl|rfl|rfl|rfl|rfl|rfl|rfl|rfl|rfl|rfl|rfl|rfl<;>rfl
def JJ:(Tryz.prog.info? 82).map (fun i=>(i.zero,i.size,i.bytes))=V (V (.agg #[O Y 0,O Y 0,O Y 0,O Y 0,O Y 0,O Y 0]),6,48):=kM
def jv:(Tryz.prog.info? 3).map (fun i=>(i.zero,i.size,i.bytes))=V (V (O Y 0),1,8):=kM
def DJ{ps:List Pl}(d:∀p∈ps,Ia p=true)(r:ps.length<=120){a b:JS}(e:a∈Me ps)(f:b∈Me ps):Ri (pe a b):=by
 have l:=Tq d e;have m:=Tq d f;have g:∀{j:JS},j∈Me ps->0<=j.k/\j.k<=120:=fun {j} n=>by
  obtain⟨i,c⟩:=List.mem_iff_getElem?.1 n;unfold Me at c;rw[List.getElem?_mapIdx]at c;cases hp:ps[i]? with
  | none=>rw[hp]at c;cases c
  | some p =>
   have:=(lS.1 hp).1;rw[hp]at c;cases c;exact⟨Int.natCast_nonneg _,by show ((i:Nat):Int)<=120;omega⟩
 have o:=g e;have q:=g f;unfold Ri pe Bd;unfold Bd at l m;dsimp only;omega
end
section
open Go.RowKit Go.Shelf Go.Sort
attribute [local go_sem] Oper.semAt_some
def XI(w:I)(c d:Z)(g:LP)(ps:List Pl)(r:Ru)(m:Ja w c g)(n:Jd w d ps)(b:Gw w)(a:Fb g ps≠0):Calls Tryz.prog 38 #[.agg #[c,d],.agg (xg r)] w (Oi w c d g ps r):=by
 have q:=Aa (fun W (j:Ba w W)=>My W c d g ps (m.f j) (n.f j) (b.ext j));obtain⟨x,z,y,rfl⟩:=Ma m;obtain⟨pa,pn,p,rfl⟩:=Ma n;obtain⟨R,i⟩:=gX (Oi w (J x z y) (J pa pn p) g ps r);rw[i];have v:=Aa i;have l:Ch g ps r=Fb g ps:=by unfold Ch;rw[if_neg a]
 obtain⟨k,t⟩:=gX (Fb g ps);rw[t]at l a q;have s:=Aa l;have f:=Aa a;have u0:(k != 0)=true:=by simpa using a
 obtain⟨sk,aa,u,L,step,ab,o⟩:=r;unfold xg;clear m n b i l a t;go_in;go_wp2_with(go_at_call 48;refine cM (q.o _ eA) ?_;rintro e w3 ⟨rfl,K⟩);rw[<-v.o];exact .inl ⟨by rw[s.o];exact f.o,by rw[s.o];rfl,eA⟩
def WI(w:I)(d f:Z)(g:LP)(ps:List Pl)(r:Ru)(o:Ja w d g)(p:Jd w f ps)(b:Gw w)(j:Fb g ps=0)(a:Lb r≠0):Calls Tryz.prog 38 #[.agg #[d,f],.agg (xg r)] w (Oi w d f g ps r):=by
 have t:=Aa (fun W (m:Ba w W)=>My W d f g ps (o.f m) (p.f m) (b.ext m));have HU:=Aa (fun W=>Ly W r);obtain⟨K,gn,L,rfl⟩:=Ma o;obtain⟨pa,pn,s,rfl⟩:=Ma p;obtain⟨R,l⟩:=gX (Oi w (J K gn L) (J pa pn s) g ps r);rw[l];have z:=Aa l;have n:Ch g ps r=Lb r:=by unfold Ch;rw[if_pos j]
 rw[j]at t;obtain⟨k,v⟩:=gX (Lb r);rw[v]at n a HU;have u:=Aa n;have i:=Aa a;have u0:(k != 0)=true:=by simpa using a
 obtain⟨sk,ae,y,ad,step,af,q⟩:=r;unfold xg at HU ⊢;dsimp only at HU;clear o p b l n a v j;go_in;go_wp2_with(first|(go_at_call 48;refine cM (t.o _ eA) ?_;rintro e x ⟨rfl,c⟩;obtain⟨aa,ab⟩:=c.cells;(have z3:=c.size);(simp only[wZ]at z3);(have y0:w.heap.size<x.heap.size:=oM);(have y1:w.heap.size+1<x.heap.size:=oM))|(go_at_call 10;refine cM (HU.o _) ?_;rintro e w4 ⟨rfl,ac⟩));rw[<-z.o];exact .inl ⟨by rw[u.o];exact i.o,by rw[u.o];rfl,eA⟩
def Bv{P:Program}{n:Nat}{T t:TypeId}{k bytes:Nat}{z:Z}{w:I}{base:Nat}{v:Z}{cs:List (List Z)}{ops:Array Oper}{o:Oper}{a:Act}{K:Act->I->Prop}{Q:Exit->Act->I->Prop}{E:Prop}(d:(P.info? T).map (fun i=>(i.zero,i.size,i.bytes))=V (V z,k,bytes))(r:z.cells.size=k)(hk:0<k)(q:bytes<=1000)(ht:P.underlying t=V (.slice T))(g:o.guard=X)(s x:Operand)(R:o.op = .call { callee:=.builtin .append,args:=#[s,x],argTypes:=#[t,t] })(hs:a.eval s=v)(p:Fa T k w base v cs){ad:Addr}{m c:Nat}(hx:a.eval x=J (V ad) m c)
  (f:List (List Z))(hm:f.length=m)(hd:∀c∈f,c.length=k)(e:∀(j:Nat) u,f.flatten[j]?=V u->w.cell? (ad.add j)=V u)(W:∀u∈f.flatten,u.oneCell'=true)(l:cs.length+m<=100000000000)(b:base<=w.heap.size)
  (h:∀v' w',Fa T k w' base v' (cs++f)->w.grownBy w' v.ownBlock->(v'.ownBlock=v.ownBlock\/v'.ownBlock=V w.heap.size)->K (a.put o.dst v') w') :
  if Region.wanted o (yielded ops a.tmps)=true then Oper.wpIn Fence.wide n P o a w K Q else E:=by
 have y:=Vo (ops:=ops) (Q:=NQ Q) (E:=E) d r hk q ht g s x R hs p hx f hm hd e W l b h;have hw:Region.wanted o (yielded ops a.tmps)=true:=by simp[Region.wanted,g]
 rw[if_pos hw]at y ⊢;exact BO (fun c L=>by rw[R]at L;cases L) y
def mT{α:Type}(f:α->Bool){xs:List α}{i:Nat}{x:α}(h:xs[i]?=V x):(xs.take (i+1)).filter f=(xs.take i).filter f++(if f x=true then [x]else []):=by
 rw[Ce _ _ _ h,List.filter_append]
 congr 1
 by_cases a:f x=true<;>simp[a]
def PV(k d:I)(b:Nat)(r:Ru)(f g v5:Z)(js:List (JS×Z))(e:Nat)(a:Z)(W:I):Prop:=
 ∃(i:Nat)(c:Z),i<=js.length/\a=O Y (i:Nat)/\e=js.length-i/\d.grownBy W (V b)/\W.heap[b]?=V (.cells (pj r f g c (J X 0 0) (J X 0 0)) 89 (0,0))/\
  Fa 113 15 W d.heap.size c (((js.take i).filter fun j=>Nf r j.1).map jc)
def OV(d:I)(b:Nat)(r:Ru)(f g j:Z)(ks:List (JS×Z))(e:Nat)(a:Z)(W:I):Prop:=
 ∃(i:Nat)(c:Z),i<=ks.length/\a=O Y (i:Nat)/\e=ks.length-i/\d.grownBy W (V b)/\W.heap[b]?=V (.cells (pj r f g j c (J X 0 0)) 89 (0,0))/\
  Fa 82 6 W d.heap.size c ((((ks.take i).map Prod.fst).flatMap (Qg r (ks.map Prod.fst))).map Sg)
def Bw(e:I)(c:Nat)(r:Ru)(i k l:Z)(ks:List (JS×Z))(pre:List Jt)(a:JS×Z)(f:Nat)(g:Nat)(b:Z)(W:I):Prop:=
 ∃(j:Nat)(d:Z),j<=ks.length/\b=O Y (j:Nat)/\g=ks.length-j/\e.grownBy W (V c)/\W.heap[c]?=V (.cells (pj r i k l d (J X 0 0)) 89 (0,0))/\W.heap[f]?=V (.cells (qh a) 113 (0,0))/\
  Fa 82 6 W e.heap.size d ((pre++(((ks.take j).map Prod.fst).filter (Ed r (ks.map Prod.fst) a.1)).map (pe a.1)).map Sg)
def Ja.keepT{w w':I}{v:Z}{l:LP}(h:Ja w v l)(k:Ka 91 w w'):Ja w' v l:=by obtain⟨a,b,d,e,f⟩:=h;exact⟨a,b,d,e.keep k,fun i c x g j=>f i c x g j⟩
def Fa.ne_blk{T T':TypeId}{k:Nat}{w:I}{base:Nat}{v:Z}{cs:List (List Z)}(h:Fa T k w base v cs){b:Nat}{c:Array Z}{d:Nat×Nat}(a:w.heap[b]?=V (.cells c T' d))(i:T'≠T):v.ownBlock≠V b:=by
 intro e;rcases h.2.2 with ⟨f,_⟩|⟨g,cap,cur,hv,_,j,_⟩
 ·rw[f]at e;cases e
 ·rw[hv]at e;cases e;rw[j]at a;cases a;exact i rfl
def jD(r:Ru)(b:List JS)(a:JS):(Qg r b a).length<=b.length:=by unfold Qg;rw[lL];exact List.length_filter_le _ _
def Nx{α β:Type}{f:α->List β}{n:Nat}(h:∀a,(f a).length<=n):∀xs:List α,(xs.flatMap f).length<=xs.length*n
 | []=>by simp
 | x::xs=>by
  rw[List.flatMap_cons,lA,List.length_cons,Nat.add_mul];have:=h x;have:=Nx h xs;omega
def NV(c:I)(d:Nat)(r:Ru)(j l m k:Z)(L:List Jt)(g:Nat)(a:Z)(f:List Deferred)(W:I):Prop:=
 ∃(i:Nat)(e:Z)(b:List Nat),i<=L.length/\a=O Y (i:Nat)/\g=L.length-i/\c.grownBy W (V d)/\W.heap[d]?=V (.cells (pj r j l m k e) 89 (0,0))/\
  Fa 3 1 W c.heap.size e ((Pc r L i).map ic)/\f=Sk b/\Xc W b/\∀D∈b,c.heap.size<=D
def yA(e d:Nat)(a5:Option Addr)(b c:Nat)(a:Act):Prop:=a.tmps.size=196/\a.tmps.getD 3 undef=M (V ⟨e,0,X⟩)/\a.tmps.getD 8 undef=M (V ⟨d+1,0,X⟩)/\a.tmps.getD 35 undef=J a5 b c/\a.tmps.getD 36 undef=O Y b/\a.defers=[]
def xA(f e:Nat)(c:Option Addr)(b d:Nat)(a:Act):Prop:=a.tmps.size=196/\a.tmps.getD 3 undef=M (V ⟨f,0,X⟩)/\a.tmps.getD 8 undef=M (V ⟨e+1,0,X⟩)/\a.tmps.getD 67 undef=J c b d/\a.tmps.getD 68 undef=O Y b/\a.defers=[]
def uA(k j g:Nat)(b c d:Z)(f:Option Addr)(e i:Nat)(a:Act):Prop:=a.tmps.size=196/\a.tmps.getD 3 undef=M (V ⟨k,0,X⟩)/\a.tmps.getD 8 undef=M (V ⟨j+1,0,X⟩)/\a.tmps.getD 12 undef=M (V ⟨g,0,X⟩)/\
 a.tmps.getD 67 undef=b/\a.tmps.getD 68 undef=c/\a.tmps.getD 69 undef=d/\a.tmps.getD 76 undef=J f e i/\a.tmps.getD 77 undef=O Y e/\a.defers=[]
def DA(l:I)(c:Nat)(r:Ru)(g j k i:Z)(e:Option Addr)(b f:Nat)(L:List Jt)(d:Nat)(a:Act)(W:I):Prop:=
 NV l c r g j k i L d (a.tmps.getD 164 undef) a.defers W/\a.tmps.size=196/\a.tmps.getD 8 undef=M (V ⟨c+1,0,X⟩)/\a.tmps.getD 162 undef=J e b f/\a.tmps.getD 163 undef=O Y b
def Bu(c b:Nat)(x:Nat)(a:Act):Prop:=a.tmps.size=196/\a.tmps.getD 8 undef=M (V ⟨c+1,0,X⟩)/\a.tmps.getD 18 undef=M (V ⟨b+1,0,X⟩)/\a.tmps.getD 19 undef=O Y (x:Nat)/\a.defers=[]
def YG(wr:I)(rs:List Int)(a:Int)(i:Nat)(pre:List {x:Nat // x<i})(W:I):Prop:=
 Ba wr W/\wr.heap.size+1+1+1+1<=W.heap.size/\W.heap[wr.heap.size+1]?=V (.cells #[O Y ((pre.map (·.1)).foldl (fun o i=>min o (rs.getD i 0)) a)] 3 (0,0))
