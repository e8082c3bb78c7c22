import Derived.Test.YtgimcmpeceifnaaGreatDoorCozT03
import Derived.Test.YtgimcmpeceifnaaGreatDoorRows
import Derived.Test.YtgimcmpeceifnaaGreatDoorCards
import Derived.Test.YtgimcmpeceifnaaGreatDoorTie
import Derived.LaidMore
import Derived.Stop.Joined
import Derived.OpenShut
import Derived.SevenTiedAt
set_option maxRecDepth 1000000
set_option maxHeartbeats 16000000
set_option linter.all false
open Go.Value renaming int->O,slice->X,pointer->F,agg->G,tuple->S
open Go.IntKind renaming i64->Y
open Go renaming World->Z,Value->M,Addr->D
open Option renaming none->V,some->I
open Go.Obj renaming cells->N
namespace Go.Proofs.YtgimcmpeceifnaaGreatDoor.Cop
section
open Go.RowKit Go.Shelf Go.Sort
def JX(w:Z)(p:Option D)(c:Nat)(a:M):Calls Tryz.prog 118 #[X p 0 c,O Y 0,O Y 0,a] w fun e b=>e=.returned (S #[])/\b=w:=by
 go_in;go_wp2;refine wp_loop_rounds 1 ?_;rw[rounds_succ];go_wp2
 go_end0
 exact⟨rfl,rfl⟩
def SX(w:Z)(p:Option D)(c:Nat)(Rc:Int)(b:M):Calls Tryz.prog 89 #[X p 0 c,O Y 0,O Y 0,O Y Rc,b] w fun e a=>e=.returned (S #[])/\a=w:=by go_in;go_wp2;refine wp_loop_rounds 1 ?_;rw[rounds_succ];go_wp2_with(go_at_call 118;refine(JX _ _ _ _).mono ?_;rintro e a ⟨rfl,rfl⟩);(try simp only[Exit.inBlock,Exit.then]);refine bR (results_none rfl _ _ _) rfl ?_;exact⟨rfl,rfl⟩
def TX(w:Z)(p:Option D)(c:Nat)(b:M):Calls Tryz.prog 54 #[X p 0 c,b] w fun e a=>e=.returned (S #[])/\a=w:=by
 have d:∀W,Calls Tryz.prog 90 #[O .u64 0] W fun e a=>e=.returned (O Y (Lib.bitLen 0:Nat))/\a=W:=fun W=>Tryz.bits_Len 0 W oM oM;go_in;go_wp2_with(first|(go_at_call 90;refine(d _).mono ?_;rintro e a ⟨rfl,rfl⟩)|(go_at_call 89;refine(SX _ _ _ _ _).mono ?_;rintro e a ⟨rfl,rfl⟩))
 go_end0
 exact⟨rfl,rfl⟩
def EW(w:Z)(base:Nat)(v:M)(js:List (JS×M))(e:Ending)(w':Z):Prop:=
 e=.returned (S #[])/\∃js':List (JS×M),js'.Perm js/\js'.Pairwise (fun a b=>a.1.x.1<=b.1.x.1)/\Fa 113 15 w' base v (js'.map jc)/\w.grownBy w' v.ownBlock
def RX(w:Z)(base:Nat)(v:M)(js:List (JS×M))(h:Fa 113 15 w base v (js.map jc))(p:∀j∈js,BJ j)(d:js.length<=1000000):Calls Tryz.prog 54 #[v,.func (.func 55) #[] #[]] w (EW w base v js):=by
 obtain⟨a,n,c,rfl⟩:=h.i;have b:=h.len;rw[lL]at b;by_cases i:js=[]
 ·subst i;simp at b;subst b;refine(TX w a c _).mono ?_;rintro e q ⟨rfl,rfl⟩;exact⟨rfl,[],List.Perm.refl _,List.Pairwise.nil,h,⟨rfl,rfl,rfl,nE _,fun _ _ _=>rfl⟩⟩
 ·obtain⟨g,rfl,_⟩:=h.blk (by rw[lL];exact List.length_pos_iff.2 i);refine(PX w base g n c js h p d).mono ?_;rintro e q ⟨rfl,f,k,l,m,o⟩;exact⟨rfl,f,k,l,m,o⟩
def nX{ps:List Pl}{js:List (JS×M)}(e:∀p∈ps,Ia p=true)(b:js.map Prod.fst=Me ps){w:Z}(d:∀j∈js,Ja w j.2 j.1.p.shape):∀j∈js,BJ j:=by
 intro j f;have g:j.1∈Me ps:=by rw[<-b];exact List.mem_map_of_mem f
 have i:=(Tq e g).1.1;obtain⟨a,n,c,h⟩:=Ma (d j f);refine⟨?_,a,n,c,h⟩;unfold Bd at *;omega
def FX{ps:List Pl}{js ks:List (JS×M)}{b t:Int}(a:js.map Prod.fst=Me ps)(c:ks.Perm (js.filter fun j=>!uW b t j.1)):(ks.map Prod.fst).Perm (xb b t ps):=by
 have h:=c.map Prod.fst;have e:(js.filter fun j=>!uW b t j.1).map Prod.fst=xb b t ps:=by
  unfold xb;rw[<-a,List.filter_map];rfl
 rwa [e]at h
def tX(w:Z)(vg vp:M)(g:LP)(ps:List Pl)(b t lo hi:Int)(hg:Ja w vg g)(hp:Jd w vp ps)(am:Gw w)(h0:Fb g ps=0)(c1:b<t)(c2:lo<hi)(c3:[b,t,lo,hi].any Uc=false):Calls Tryz.prog 20 #[G #[vg,vp],O Y b,O Y t,O Y lo,O Y hi] w (vW w b t lo hi g ps):=by
 obtain⟨aq,ap,aP⟩:=Bs h0;have HC:=Aa (fun W (hW:Ba w W)=>My W vg vp g ps (hg.f hW) (hp.f hW) (am.ext hW));have HS:=Aa (fun W (hW:Ba w W)=>sQ W vg vp ps (Ma hg) (hp.f hW) (am.ext hW) aq ap);obtain⟨ga,gn,gc,rfl⟩:=Ma hg;obtain⟨pa,pn,aT,rfl⟩:=Ma hp;obtain⟨R,hR⟩:=gX (vW w b t lo hi g ps);rw[hR];have HR:=Aa hR;have he:mn b t lo hi g ps=0:=by unfold mn;rw[if_pos h0,if_neg (by rw[c3];simp;omega)]
 rw[h0]at HC;have HE:=Aa he;have C3:=Aa c3;have au:=Aa aq;have aG:=Aa ap;have ah:Bd 104000 lo/\Bd 104000 hi:=by
  unfold Uc at c3;simp at c3;unfold Bd;omega
 have y:=Aa ah;have aZ:=Aa c2;clear hg hp am hR he h0 c3 aq aP ah ap;have aS:∀(fn:Fn)(first cap:Array M)(w:Z),(Instr.makeFunc fn first cap).run Tryz.prog w = .ok (.func fn first cap) w:=fun _ _ _ _=>rfl;go_in;go_wp2_with(first|(go_at_call 48;refine cM (HC.o _ eA) ?_;rintro e w3 ⟨rfl,aa⟩;obtain⟨aK,aM⟩:=aa.cells;(have z3:=aa.size);(simp only[wZ]at z3);(have y0:w.heap.size<w3.heap.size:=oM);(have y1:w.heap.size+1<w3.heap.size:=oM);(have y2:w.heap.size+1+1<w3.heap.size:=oM);(have y3:w.heap.size<w3.heap.size+1:=oM))|(go_at_call 37;(with_reducible refine(iX _ _ [b,t,lo,hi] (WW _ rfl b t lo hi)).mono ?_);rw[C3.o];rintro e w4 ⟨rfl,ab⟩;obtain⟨aL,aO⟩:=ab.cells)|(go_at_call 50;refine cM (HS.o _ eA) ?_;rintro e w5 ⟨v5,js,rfl,r,z,ad,af⟩;obtain⟨a5,n5,k5,rfl⟩:=r.i;have z4:=ab.size;have z5:=af.size;(simp only[wZ]at z4);(have K1:=af.e (ab.e (((eR w3).alloc (N #[O Y b,O Y t,O Y lo,O Y hi] 3)).e (aa.e (AX w b (N #[X ga gn gc,X pa pn aT] 39) (N #[O Y t] 3))))));(have K2:=af.e (ab.e (((eR w3).alloc (N #[O Y b,O Y t,O Y lo,O Y hi] 3)).e (aa.e (aN _ (N #[O Y t] 3))))))));simp only[wZ]at K2;have HB:=Aa (nX au.o z ad);have ar:js.length<=1000000:=by
  have h9:=congrArg List.length z;have h8:=aG.o;rw[lL,Yn]at h9;omega
 with_reducible refine(LX _ _ _ js (w.heap.size+1) (w.heap.size+1+1) (uW b t) r z5 ar ?_ ?_).mono ?_
 ·intro j hj;obtain⟨a,n,c,h⟩:=Ma (ad j hj);exact⟨a,n,c,h⟩
 ·intro W hW j hj;exact VX W j b t _ _ (Da ((hW.block _ oM).trans K1) rfl) (Da ((hW.block _ oM).trans K2) rfl)
 rintro e w6 ⟨v6,rfl,f,ak⟩;obtain⟨a6,n6,k6,rfl⟩:=f.i;have aF:(js.filter fun j=>!uW b t j.1).length<=1000000:=nT (List.length_filter_le _ _) ar;go_wp2_with(go_at_call 54;(with_reducible refine(RX _ _ _ _ f ?_ aF).mono ?_);(intro j hj;exact HB.o j (List.mem_filter.1 hj).1);rintro e w7 ⟨rfl,u,ae,aA,s,aw⟩);have X5:Ba w w5:=eA;have be:=X5.size;have bc:=ak.size;have X4:Ba w w4:=eA;have X6:Ba w w6:=X5.D ak X4.size;have X7:Ba w w7:=X6.D (Yg (base:=w4.heap.size) aw oM (fun k hk=>(f.lt k hk).1)) X4.size;have ay:=s.js;have ao:=s.len;rw[lL]at ao;have ai:∀j∈u,(Bd 104000 j.1.x.1/\Bd 104000 j.1.x.2):=fun j hj=>by
  have h1:j∈js:=(List.mem_filter.1 (ae.mem_iff.1 hj)).1;have h2:j.1∈Me ps:=by rw[<-z];exact List.mem_map_of_mem h1
  exact(Tq au.o h2).1
 have ag:=Aa ai;have aB:∀j∈u,∃a n c,j.2=X a n c:=fun j hj=>by
  obtain⟨a,n,c,h⟩:=Ma (ad j (List.mem_filter.1 (ae.mem_iff.1 hj)).1);exact⟨a,n,c,h⟩
 have aI:=Aa aB;have aj:=FX (b:=b) (t:=t) z ae;have av:=Aa aj;have aH:=Aa aA;have Hn:=Aa ao.symm;have bb:n6<=9223372036854775807:=by have:=ay.le;unfold maxLen at this;omega
 clear ai aB aj aA ae s f r z ad K1 K2 HB aK aM aL aO ak aw aa ab af aS ao;go_loopg [15,16,51] n6 (iY w (X a6 n6 k6) lo hi u)
 case atStart=>exact⟨0,by omega,rfl,by rw[Hn.o];rfl,by simp,by simp,X7,ay⟩
 case round =>
  obtain⟨i,aQ,rfl,rfl,rfl,rfl,hx,an⟩:=hrel;rw[Hn.o]at aQ;obtain⟨o1,m⟩:=gX ((((u.take i).map Prod.fst).foldl (CR hi) (0,lo)).1);obtain⟨o2,p⟩:=gX ((((u.take i).map Prod.fst).foldl (CR hi) (0,lo)).2);have ac:=oX (k:=104000) (hi:=hi) (js:=(u.take i).map Prod.fst) y.o.2 (fun j hj=>by obtain⟨q,hq,rfl⟩:=List.mem_map.1 hj;exact ag.o q (List.mem_of_mem_take hq)) (o:=(0,lo)) ⟨by unfold Bd;omega,y.o.1⟩;rw[m,p]at ac;rw[m,p];have al:=y.o.2;unfold Bd at ac al;by_cases aR:i<n6
  ·obtain⟨⟨⟨⟨nm,sh,d,de,gx,gz,wy,ax,az,sk⟩,k,⟨xl,xh⟩,zl,zh⟩,v⟩,hq⟩:∃q,u[i]?=I q:=⟨u[i]'(by rw[Hn.o];omega),by simp[Hn.o,aR]⟩;obtain⟨va,vn,vc,aC⟩:=aI.o _ (lM hq);dsimp only at aC;subst aC;obtain⟨bk,o,rfl,hb,l⟩:=an.at' hq;have aD:=ag.o _ (lM hq);dsimp only[Bd]at aD;have e9:((u.take (i+1)).map Prod.fst).foldl (CR hi) (0,lo)=(max o1 (min xl hi-o2),max o2 xh):=by
    rw[Ce _ _ _ hq,List.map_append,List.map_cons,List.map_nil,uX,show ((u.take i).map Prod.fst).foldl (CR hi) (0,lo)=(o1,o2)from Prod.ext m p];rfl
   have E9:=Aa e9;have d1:-9223372036854775808<=min xl hi-o2:=oM;have d2:min xl hi-o2<=9223372036854775807:=oM;unfold qh at l;dsimp only at l;have aJ:=l 0 (.string nm) rfl;have a0:=l 1 (X va vn vc) rfl;have a1:=l 2 (O Y d) rfl;have a2:=l 3 (O Y de) rfl;have a3:=l 4 (O Y gx) rfl;have a4:=l 5 (O Y gz) rfl;have a7:=l 6 (O Y wy) rfl;have a8:=l 7 (O Y ax) rfl;have a9:=l 8 (O Y az) rfl;have ba:=l 9 (O .u8 sk) rfl;have aU:=l 10 (O Y k) rfl;have aV:=l 11 (O Y xl) rfl;have aW:=l 12 (O Y xh) rfl;have aX:=l 13 (O Y zl) rfl;have aY:=l 14 (O Y zh) rfl;simp only[Nat.add_zero]at aJ;have Hx:=Aa hx;have aE:=Aa an;clear hq l ac al aD m p hx an e9;go_wp2
   all_goals go_roundg (n6-(i+1))
   case measure=>have:=Hn.o;omega
   case rel =>
    refine⟨i+1,by have:=Hn.o;omega,by go_num,by rw[Hn.o],?_,?_,Hx.o.alloc _,aE.o.f ((eR _).alloc _)⟩
    ·rw[E9.o]
    ·rw[E9.o]
  ·obtain rfl:i=n6:=oM;have e:u.take i=u:=lT (by rw[Hn.o];exact nE _);rw[e]at m p;have e2:FJ lo hi (u.map Prod.fst)=max o1 (hi-o2):=by unfold FJ;rw[m,p]
   have E2:=Aa e2;have d1:-9223372036854775808<=hi-o2:=oM;have d2:hi-o2<=9223372036854775807:=oM;clear e e2 m p ac al;go_wp2
   all_goals rw[<-HR.o]
   refine .inr ⟨HE.o,u.map Prod.fst,av.o,?_,by rw[E2.o];rfl,hx⟩;rw[List.pairwise_map];exact aH.o
def EX(w:Z)(c d:M)(g:LP)(ps:List Pl)(b t lo hi:Int)(i:Ja w c g)(j:Jd w d ps)(a:Gw w):Calls Tryz.prog 20 #[G #[c,d],O Y b,O Y t,O Y lo,O Y hi] w (vW w b t lo hi g ps):=by
 by_cases f:Fb g ps=0
 ·by_cases e:t<=b\/hi<=lo\/[b,t,lo,hi].any Uc=true
  ·exact DX w c d g ps b t lo hi i j a f e
  ·have l:¬t<=b:=fun h=>e (.inl h);have m:¬hi<=lo:=fun h=>e (.inr (.inl h));have k:¬[b,t,lo,hi].any Uc=true:=fun h=>e (.inr (.inr h));exact tX w c d g ps b t lo hi i j a f oM oM (by simpa using k)
 ·exact CX w c d g ps b t lo hi i j a f
end
section
open Go.ChangeShapes Go.WideShapes Go.Deep
section
variable {H:Type} {enc:TypeId×Value->H} {w:World} {spare:Nat->Bool} {held:Bool}
end
end
section
open Go.RowKit Go.Shelf Go.Sort
end
section
open Go Go.ChangeShapes Go.WideShapes Go.ChangeAt Go.RowKit
end
section
open Go.ChangeShapes Go.WideShapes Go.Deep
section
variable {H:Type} {enc:TypeId×Value->H} {w:World} {spare:Nat->Bool} {held:Bool}
end
end
section
open Go.RowKit Go.Shelf Go.Sort
end
section
open Go.RowKit Go.Shelf Go.Sort Go.Lib
def DW{b t lo hi:Int}{g:LP}{ps:List Pl}(h:mn b t lo hi g ps=0):Fb g ps=0/\b<t/\lo<hi/\ -100000<=lo/\lo<=100000/\ -100000<=hi/\hi<=100000:=by
 unfold mn at h;split at h
 ·rename_i h1;split at h
  ·cases h
  ·rename_i h9;simp only[List.any_cons,List.any_nil,Bool.or_false,Bool.or_eq_true,not_or,Uc,decide_eq_true_eq]at h9;omega
 ·rename_i h9;exact absurd h h9
end
section
open Go.RowKit Go.Shelf Go.Sort
instance:Inhabited {j // Ri j}:=⟨⟨⟨0,0,0,0,0,0⟩,by unfold Ri Bd;decide⟩⟩
end
section
open Go.RowKit Go.Shelf Go.Sort Go.Lib
def xX{ps:List Pl}{i:Nat}{q:Pl}(h:ps[i]?=I q):Me (ps.take (i+1))=Me (ps.take i)++[Ib i q]:=by have a:=(lS.1 h).1;rw[Ce ps i q h];unfold Me;rw[List.mapIdx_append,List.length_take,Nat.min_eq_left oM];simp
def rX{p hi b t:Int}{ps:List Pl}{i:Nat}{q:Pl}(h:ps[i]?=I q):rj p hi (xb b t (ps.take (i+1)))=if (q.skin=3/\(pd Prod.snd (Ca q)).1<t/\b<(pd Prod.snd (Ca q)).2/\(pd Prod.snd (Ca q)).1<(pd Prod.snd (Ca q)).2/\b<t)/\p<(pd Prod.fst (Ca q)).2/\(pd Prod.fst (Ca q)).1<(rj p hi (xb b t (ps.take i))).1 then pd Prod.fst (Ca q)else rj p hi (xb b t (ps.take i)):=by
 unfold xb;rw[xX h,List.filter_append];have e:(uW b t (Ib i q)=false) ↔ (q.skin=3/\(pd Prod.snd (Ca q)).1<t/\b<(pd Prod.snd (Ca q)).2/\(pd Prod.snd (Ca q)).1<(pd Prod.snd (Ca q)).2/\b<t):=by
  unfold uW Ib;simp only[Bool.or_eq_false_iff,bne_eq_false_iff_eq,Bool.not_eq_false',decide_eq_true_eq];omega
 by_cases c:uW b t (Ib i q)=false
 ·rw[List.filter_cons_of_pos (by simp[c]),List.filter_nil,IM];have:=e.1 c;rw[show (Ib i q).x=pd Prod.fst (Ca q)from rfl];by_cases a:p<(pd Prod.fst (Ca q)).2/\(pd Prod.fst (Ca q)).1<(rj p hi ((Me (ps.take i)).filter fun j=>!uW b t j)).1
  ·rw[if_pos a,if_pos ⟨this,a⟩]
  ·rw[if_neg a,if_neg (fun d=>a d.2)]
 ·rw[List.filter_cons_of_neg (by simpa using c),List.filter_nil,List.append_nil,if_neg (fun d=>c (e.2 d.1))]
end
section
open Go.RowKit Go.Shelf Go.Sort
attribute [local go_sem] Oper.semAt_some
