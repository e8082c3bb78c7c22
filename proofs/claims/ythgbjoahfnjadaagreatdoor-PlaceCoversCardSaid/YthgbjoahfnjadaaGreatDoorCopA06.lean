import Derived.Test.YthgbjoahfnjadaaGreatDoorCopA05
import Derived.Deep.CutBlock
import Derived.Deep.DeepCutAuto
import Derived.Test.YthgbjoahfnjadaaGreatDoorCopA01
set_option maxRecDepth 1000000
set_option maxHeartbeats 16000000
set_option linter.all false
open Go.Value renaming int->O,slice->Z
open Go.IntKind renaming i64->Y
open Option renaming some->X,none->J
open Go renaming World->V,Value->M
namespace Go.Proofs.YthgbjoahfnjadaaGreatDoor.Cop
section
open Go.RowKit Go.Shelf
def Ze(a b:Int):Bool:=(!(a==0) || !(b==0))&&xb a (-100) 100&&xb b (-100) 100
def ud(nb:Bool)(ps:LP)(d a b c:Int):Bool:=nb&&Vd ps&&xb d 1 2000&&xb a 1 10000&&Ze b c
def PM(w:V)(s:ByteArray)(a:Option Addr)(n c:Nat)(d f b e:Int)(t4:M)(W:V):Prop:=
 t4 = .bool (Ze b e)/\oa w W/\W.heap[w.heap.size]?=X (.cells #[.string s,Z a n c,O Y d,O Y f,O Y b,O Y e] 70 (0,0))
def tJ(w:V)(s:ByteArray)(v:M)(ps:LP)(d l b f:Int)(nb:Bool)(h:Aa w v ps)(K:∀W,Calls Tryz.prog 195 #[.string s] W fun e w'=>e=.returned (.bool nb)/\oa W w'):Calls Tryz.prog 154 #[.agg #[.string s,v,O Y d,O Y l,O Y b,O Y f]] w fun e w'=>e=.returned (O Y (if ud nb ps d l b f then 0 else 2))/\oa w w':=by
 obtain⟨a,c,rfl⟩:=h.form;obtain⟨n,hn⟩:=gX ps.length;rw[hn]at h ⊢;have y:=ia K;have p:=fun W (hW:oa w W)=>UJ W (Z a n c) ps (h.i hW);obtain⟨x,o⟩:=gX (Vd ps);rw[o]at p;obtain⟨R,j⟩:∃R:Int,(if ud nb ps d l b f then (0:Int)else 2)=R:=⟨_,rfl⟩;rw[j];unfold ud at j;rw[o]at j;have z:=ia p;have HR:=ia j;clear K p j o hn h;go_in;go_upto_region 2 with fail;go_cut [4] (PM w s a n c d l b f)
 case first =>
  by_cases hz:b=0/\f=0
  ·obtain⟨rfl,rfl⟩:=hz;go_wp2;go_meet;exact⟨rfl,eA,by rw[Ef,if_neg sM];exact Kc _ _ _ rfl⟩
  ·have P:(b≠0)\/(b=0/\f≠0):=by
    by_cases e:b=0
    ·exact .inr ⟨e,fun e2=>hz ⟨e,e2⟩⟩
    ·exact .inl e
   clear hz;have T:(b==0)=false\/((b==0)=true/\(f==0)=false):=by simpa using P
   have u:Ze b f=(xb b (-100) 100&&xb f (-100) 100):=by
    unfold Ze;rcases T with f1|⟨f1,f2⟩<;>simp[*]
   obtain⟨k,k1⟩:=gX (xb b (-100) 100);obtain⟨m,k2⟩:=gX (xb f (-100) 100);rw[k1,k2]at u;have hd:(k=false/\Ze b f=false)\/(k=true/\m=false/\Ze b f=false)\/(k=true/\m=true/\Ze b f=true):=by cases k<;>cases m<;>simp[u]
   clear P u;rcases T with f1|⟨f1,f2⟩<;>rcases hd with ⟨rfl,hg⟩|⟨rfl,rfl,hg⟩|⟨rfl,rfl,hg⟩
   all_goals
    have aa:=ia hg;clear hg;go_wp2_with(first|((go_at_call 194;(with_reducible refine(jk _ b (-100) 100).mono ?_);rintro e w1 ⟨rfl,g⟩;obtain⟨ab,ad⟩:=g.cells;(try(refine oa.y g (n:=w.heap.size) ?_ (fun _=>?_);focus(first|(go_simp;done)|omega)));(try(refine oa.y g (n:=w.heap.size+1) ?_ (fun _=>?_);focus(first|(go_simp;done)|omega)))))|((go_at_call 194;(with_reducible refine(jk _ f (-100) 100).mono ?_);rintro e w2 ⟨rfl,i⟩;obtain⟨ac,ae⟩:=i.cells;(try(refine oa.y i (n:=w.heap.size) ?_ (fun _=>?_);focus(first|(go_simp;done)|omega)));(try(refine oa.y i (n:=w.heap.size+1) ?_ (fun _=>?_);focus(first|(go_simp;done)|omega))))));go_meet;exact⟨by rw[aa.o],eA,by rw[oa.block (a:=(w.alloc (.cells #[.string s,Z a n c,O Y d,O Y l,O Y b,O Y f] 70))) eA sM];exact Kc _ _ _ rfl⟩
 case rest =>
  obtain⟨rfl,hx,t⟩:=hcut;have b0:=ja t 0 (.string s);have b1:=ja t 1 (Z a n c);have b2:=ja t 2 (O Y d);have b3:=ja t 3 (O Y l);have zb:=jc t;clear t;have j:=HR.o;obtain⟨G,u⟩:=gX (Ze b f);rw[u]at j ⊢;clear u HR;obtain⟨k,k1⟩:=gX (xb d 1 2000);obtain⟨m,k2⟩:=gX (xb l 1 10000);rw[k1,k2]at j;have T:(nb=false/\R=2)\/(nb=true/\x=false/\R=2)\/(nb=true/\x=true/\k=false/\R=2)\/(nb=true/\x=true/\k=true/\m=false/\R=2)\/(nb=true/\x=true/\k=true/\m=true/\G=false/\R=2)\/(nb=true/\x=true/\k=true/\m=true/\G=true/\R=0):=by
   rw[<-j];clear j k1 k2 y z;cases nb<;>cases x<;>cases k<;>cases m<;>cases G<;>simp
  clear j;rcases T with ⟨rfl,rfl⟩|⟨rfl,rfl,rfl⟩|⟨rfl,rfl,rfl,rfl⟩|⟨rfl,rfl,rfl,rfl,rfl⟩|⟨rfl,rfl,rfl,rfl,rfl,rfl⟩|⟨rfl,rfl,rfl,rfl,rfl,rfl⟩
  all_goals
   go_wp2_with(first|((go_at_call 195;refine cM (y.o _) ?_;rintro e w1 ⟨rfl,g⟩;obtain⟨ab,ad⟩:=g.cells;(have y1:=g.lt zb)))|((go_at_call 196;refine cM (z.o _ eA) ?_;rintro e w2 ⟨rfl,i⟩;obtain⟨ac,ae⟩:=i.cells;(have y2:=i.lt y1)))|((go_at_call 194;(with_reducible refine(jk _ d 1 2000).mono ?_);rintro e w3 ⟨rfl,q⟩;obtain⟨af,ah⟩:=q.cells;(try(refine oa.y q (n:=w.heap.size) ?_ (fun _=>?_);focus(first|(go_simp;done)|omega)));(try(refine oa.y q (n:=w.heap.size+1) ?_ (fun _=>?_);focus(first|(go_simp;done)|omega)))))|((go_at_call 194;(with_reducible refine(jk _ l 1 10000).mono ?_);rintro e w4 ⟨rfl,r⟩;obtain⟨ag,ai⟩:=r.cells;(try(refine oa.y r (n:=w.heap.size) ?_ (fun _=>?_);focus(first|(go_simp;done)|omega)));(try(refine oa.y r (n:=w.heap.size+1) ?_ (fun _=>?_);focus(first|(go_simp;done)|omega))))));go_ret;exact⟨rfl,eA⟩
def Pf(ps:LP):Nat:=(oe (fun p=>Nf ps==p) ps).toNat
def Nb(ps:LP):LP:=(ps.drop (Pf ps)++ps.take (Pf ps)).map fun p=>(p.1-(Ab ps).1,p.2-(Ab ps).2)
def Ky{ps:LP}(h:ps≠[]):Nf ps∈ps:=by
 cases ps with
 | nil=>exact absurd rfl h
 | cons p ps =>
  have:∀(b:LP)(a:Int×Int),b.foldl Mh a=a\/b.foldl Mh a∈b:=by
   intro b;induction b with
   | nil=>intro a;exact .inl rfl
   | cons q b c =>
    intro a;rw[List.foldl_cons];rcases c (Mh a q)with e|e
    ·rw[e];unfold Mh;split
     ·exact .inr sM
     ·exact .inl rfl
    ·exact .inr (mC _ e)
  rcases this ps p with e|e
  ·rw[show Nf (p::ps)=ps.foldl Mh p from rfl,e];simp
  ·rw[show Nf (p::ps)=ps.foldl Mh p from rfl];exact mC _ e
def nx{ps:LP}(h:ps≠[]):oe (fun p=>Nf ps==p) ps=(Pf ps:Int)/\Pf ps<ps.length:=by
 obtain⟨i,c,b⟩:=List.mem_iff_getElem.1 (Ky h);unfold Pf;unfold oe;cases hf:ps.findIdx? (fun p=>Nf ps==p)with
 |none=>
  rw[List.findIdx?_eq_none_iff]at hf;have:=hf _ (Ky h);simp at this
 | some j =>
  rw[List.findIdx?_eq_some_iff_getElem]at hf;obtain⟨a,_⟩:=hf;exact⟨by simp,by simpa using a⟩
def iA{k:Int}{ps:LP}(h:Se k ps)(f:ps≠[]):Bd k (Ab ps).1/\Bd k (Ab ps).2:=by
 cases ps with
 | nil=>exact absurd rfl f
 | cons p ps =>
  have:∀(b:LP)(a:Int×Int),(Bd k a.1/\Bd k a.2)->Se k b->Bd k (b.foldl (fun o q=>(min o.1 q.1,min o.2 q.2)) a).1/\Bd k (b.foldl (fun o q=>(min o.1 q.1,min o.2 q.2)) a).2:=by
   intro b;induction b with
   | nil=>intro a d _;exact d
   | cons q b g =>
    intro a d e;refine g _ ?_ (fun z c=>e z (mC _ c));have:=e q sM;unfold Bd at *;dsimp only;omega
  exact this ps p (h p sM) (fun z c=>h z (mC _ c))
def Se.rot{k:Int}{ps:LP}(h:Se k ps)(m:Nat):Se k (ps.drop m++ps.take m):=fun p b=>by
 rcases List.mem_append.1 b with a|a
 ·exact h p (List.mem_of_mem_drop a)
 ·exact h p (List.mem_of_mem_take a)
def uL{T:TypeId}{W:V}{f g:M}{d e:LP}(j:Aa W f d)(k:Aa W g e):Sl T 1 (Ii T) (W.alloc (.cells #[f,g] T)) (Z (X ⟨W.heap.size,0,J⟩) 2 2) [d,e]:=by
 refine⟨[[f],[g]],rfl,by simp,⟨rfl,_,_,rfl,nE _,by unfold maxLen;omega,.inr ⟨W.heap.size,0,_,_,rfl,aN W _,?_⟩⟩,?_⟩
 ·intro i x a
  match i,a with
  | 0,a=>simpa using a
  | 1,a=>simpa using a
  | i+2,a=>simp at a
 ·intro i c x b a
  match i,b,a with
  | 0,b,a=>simp at b a;subst b a;exact⟨_,rfl,j.i ((eR _).alloc _)⟩
  | 1,b,a=>simp at b a;subst b a;exact⟨_,rfl,k.i ((eR _).alloc _)⟩
  | i+2,b,a=>simp at b
def BC(w:V)(base:Nat)(f:Int×Int->Int×Int)(a:LP)(v5:M)(g:Nat)(b:M)(W:V):Prop:=
 ∃i:Nat,i<=a.length/\b=O Y i/\g=a.length-i/\oa w W/\base<=W.heap.size/\Ga 55 2 W base v5 (((a.take i).map f++a.drop i).map pc)
def Nv{f:Int×Int->Int×Int}{a:LP}{i:Nat}{q:Int×Int}(h:a[i]?=X q):(((a.take i).map f++a.drop i).map pc)[i]?=X (pc q):=by have b:=(lS.1 h).1;rw[lP,List.getElem?_append_right (by simp;omega)];simp only[lL,List.length_take];rw[show i-min i a.length=0 by omega,List.getElem?_drop,Nat.add_zero,h];rfl
def pw{f:Int×Int->Int×Int}{a:LP}{i:Nat}{q:Int×Int}(h:a[i]?=X q){x z:Int}(e:f q=(x,z))(d:List M)(c:d=[O Y x,O Y z]):(((a.take i).map f++a.drop i).map pc).set i d=(((a.take (i+1)).map f++a.drop (i+1)).map pc):=by
 have g:=(lS.1 h).1;subst c;have b:(a.drop i)=q::a.drop (i+1):=by
  rw[List.drop_eq_getElem_cons g];have:=(lS.1 h).2;rw[this]
 have j:((a.take i).map f).map pc=((a.take i).map f).map pc:=rfl;rw[Xf _ _ _ h,List.map_append,List.map_append,b,List.set_append_right _ _ (by simp;omega),List.map_cons];simp only[lL,List.length_take];rw[show i-min i a.length=0 by omega,List.set_cons_zero];simp[e,pc]
def Ga.pair{T:TypeId}{w:V}{base g n c:Nat}{cs:List (List M)}{i:Nat}{p:Int×Int}(h:Ga T 2 w base (Z (X ⟨g,0,J⟩) n c) cs)(b:cs[i]?=X (pc p))(u v:M):Ga T 2 ((w.setCell ⟨g,i*2,J⟩ u).setCell ⟨g,i*2+1,J⟩ v) base (Z (X ⟨g,0,J⟩) n c) (cs.set i [u,v]):=by have e:=Ga.stored (j:=0) h b dM u;have f:=(lS.1 b).1;have a:=Ga.stored (i:=i) (j:=1) (d:=[u,O Y p.2]) e (by rw[List.getElem?_set_self oM];rfl) dM v;rw[List.set_set]at a;exact a
def FB(w:V)(v:M)(ps:LP)(h:Aa w v ps)(h0:0<ps.length)(aX:ps.length<=1000000)(hb:Se 1000000 ps):Calls Tryz.prog 262 #[v] w (Vj 55 2 w ((Nb ps).map pc)):=by
 obtain⟨a,c,rfl⟩:=h.form;have am:ps≠[]:=by intro e;subst e;simp at h0
 obtain⟨⟨a8,a9⟩,aA⟩:∃p,ps[0]?=X p:=⟨ps[0],by simp⟩;obtain⟨b,o,rfl,aZ,_,_⟩:=h.at' aA;have ak:=iA hb am;have ac:=nx am;have hQ:Nb ps=(ps.drop (Pf ps)++ps.take (Pf ps)).map fun p=>(p.1-(Ab ps).1,p.2-(Ab ps).2):=rfl;have ae:=hb.rot (Pf ps);rw[hQ];have al:=h.le;have aa:=fun W (hW:oa w W)=>fA W _ ps (h.i hW) h0;have ab:=fun W (hW:oa w W)=>Iw W _ ps (h.i hW) h0;obtain⟨⟨K,P⟩,hl⟩:∃p,Ab ps=p:=⟨_,rfl⟩;obtain⟨⟨mx,mz⟩,hm⟩:∃p,Nf ps=p:=⟨_,rfl⟩;have y:=fun W (hW:oa w W)=>EI W _ ps mx mz (h.i hW);rw[<-hm,ac.1]at y;obtain⟨k,hk⟩:=gX (Pf ps);rw[hk]at y ae ac ⊢;rw[hl]at aa ak ⊢;rw[hm]at ab;obtain⟨R,af⟩:=gX (ps.drop k++ps.take k);rw[af]at ae ⊢;obtain⟨n,hn⟩:=gX ps.length;have a2:k<n:=by have:=ac.2;omega
 have aB:R.length=n:=by rw[<-af];simp;omega
 have ap:Aa w _ _:=h.drop h0 (m:=k) oM;have aC:Aa w _ _:=h.take h0 (m:=k) (c':=k) oM (nE _) oM;rw[hn]at h aa ab y al ap ⊢;unfold maxLen at al;have t:=fun W (hW:oa w W)=>tI ((W.alloc (.cells #[Z (X ⟨b,o+k*2,J⟩) (n-k) (c-k),Z (X ⟨b,o,J⟩) k k] 32)).drew) (Z (X ⟨W.heap.size,0,J⟩) 2 2) [ps.drop k,ps.take k] (uL (T:=32) (ap.i hW) (aC.i hW)) (by
  unfold Wi;simp;omega)
 have e2:[ps.drop k,ps.take k].flatten=R:=by simpa using af
 rw[e2]at t;obtain⟨RL,ai⟩:=gX ((R.map (fun p=>(p.1-K,p.2-P))).map pc);rw[ai];have aF:=ia ai;clear ai;have aI:=ia aa;have aJ:=ia ab;have aH:=ia y;have aG:=ia t;have aK:=ia ae;have av:=ia ak;have l:=ia aB;have k1:(0:Int)<=(k:Int):=oM;have k2:(k:Int)<=(n:Int):=oM;have k3:(n:Int)<=(c:Int):=oM;have k4:(k:Int)<(c:Int):=oM;have k5:k<c:=oM;have a3:c<=9223372036854775807:=oM;clear aa ab y t ae ak aB ac hk hl hm af hn ap aC al h hQ e2 hb am aA h0 aX;go_in;go_wp2_with(first|((go_at_call 236;refine cM (aI.o _ eA) ?_;rintro e w1 ⟨rfl,ag⟩;obtain⟨aO,aS⟩:=ag.cells))|((go_at_call 237;refine cM (aJ.o _ eA) ?_;rintro e w2 ⟨rfl,u⟩;obtain⟨aP,aT⟩:=u.cells))|((go_at_call 289;refine cM (aH.o _ eA) ?_;rintro e w3 ⟨rfl,x⟩;obtain⟨aQ,aU⟩:=x.cells)));have ah:oa w w3:=eA;have t:=aG.o w3 ah;have aE:=ia t;clear t;have zo:w1.heap.size<w3.heap.size:=Nat.lt_of_lt_of_le (by have:=u.size;simp at this;omega) x.size;have o2:w2.cell? ⟨w1.heap.size,0,J⟩=X (O Y K):=u.d sM;have o3:w2.cell? ⟨w1.heap.size,1,J⟩=X (O Y P):=u.d sM;have o4:=x.d o2;have o5:=x.d o3;have O4:=ia o4;have O5:=ia o5;clear o2 o3 o4 o5
 first|(go_region_with (((go_at_call 290;(with_reducible refine aE.o.mono ?_);rintro e w4 ⟨v4,rfl,z,aD⟩;obtain⟨a4,n4,c4,rfl⟩:=z.j))))|fail
 all_goals go_wp2
 have az:=z.len;rw[lL,l.o]at az;obtain rfl:n=n4:=az.symm;obtain⟨g4,rfl,ay,a0⟩:=z.blk (by rw[lL,l.o];omega);have r:oa w3 w4:=((eR w3).alloc _).drew.trans aD;have s:oa w w4:=(((ag.alloc _).trans u).trans x).trans r;have p4:=r.d O4.o;have p5:=r.d O5.o;simp only[Tb,wZ]at ay;obtain⟨bo,aj⟩:=gX w1.heap.size;have a7:w.heap.size<=bo:=by rw[<-aj];exact ag.size
 rw[aj]at zo p4 p5 ⊢;have an:=z.mono (b':=w3.heap.size) sM;have aq:=r.size;obtain⟨B,hB⟩:=gX w3.heap.size;rw[hB]at zo an aq ay;have aM:w.heap.size<=B:=oM;clear aj hB z ag u x ah aD r aO aS aP aT aQ aU;go_loopg [24] n (fun g aY W=>BC w B (fun p=>(p.1-K,p.2-P)) R (Z (X ⟨g4,0,J⟩) n c4) g aY W/\W.cell? ⟨bo,0,J⟩=X (O Y K)/\W.cell? ⟨bo,1,J⟩=X (O Y P))
 case atStart=>exact⟨⟨0,by omega,rfl,by rw[l.o];rfl,s,aq,by simpa using an⟩,p4,p5⟩
 case round =>
  clear p4 p5 an s aq;obtain⟨⟨i,hi,rfl,rfl,hx,a6,d⟩,q0,q1⟩:=hrel;rw[l.o]at hi;by_cases aW:i<n
  ·obtain⟨⟨qx,qz⟩,hq⟩:∃q,R[i]?=X q:=⟨R[i]'(by rw[l.o];omega),by simp[l.o,aW]⟩;have ad:=Nv (f:=fun p=>(p.1-K,p.2-P)) hq;have d0:=d.cell (j:=0) ad rfl;have d1:=d.cell (j:=1) ad rfl;simp only[Nat.add_zero]at d0;dsimp only at d0 d1;have f0:=d.frozen;have ax:=aK.o (qx,qz) (lM hq);have au:=ia ax;have ar:=fun(W:V)(h:Ga 55 2 W B (Z (X ⟨g4,0,J⟩) n c4) (((R.take i).map (fun p=>(p.1-K,p.2-P))++R.drop i).map pc))=>h.pair ad (O Y (qx-K)) (O Y (qz-P));rw[pw (f:=fun p=>(p.1-K,p.2-P)) hq rfl _ rfl]at ar;have aL:=ia ar;have aw:=ia d;have zg:=(d.lt g4 rfl).2;have zb:bo<wr.heap.size:=World.block_lt_of_cell? wr _ q0;have p1:(0:Int)<=(i:Int):=oM;have p2:(i:Int)<(n:Int):=oM;have a1:¬g4=bo:=oM;clear ar ad hq ax d;go_wp2
   go_region_with (((go_at_call 291;(with_reducible refine(Pt _ qx qz K P (au.o.1.mono dM) (au.o.2.mono dM) (av.o.1.mono dM) (av.o.2.mono dM)).mono ?_);rintro e w5 ⟨rfl,r⟩;obtain⟨aR,aV⟩:=r.cells;(try simp only[Zf,Yf,Tb]at aR aV))))
   all_goals go_wp2
   all_goals
    have s:oa wr w5:=(eR wr).drew.trans r;have a5:=s.size;have ao:=aL.o w5 (aw.o.ext s);have ba:=s.d q0;have bb:=s.d q1;go_roundg (n-(i+1))
    case measure=>have:=l.o;omega
    case rel=>exact⟨⟨i+1,by have:=l.o;omega,by go_num,by rw[l.o],((hx.trans s).set dO _).set dO _,by simp only[sf];omega,ao⟩,by go_simp,by go_simp⟩
  ·obtain rfl:i=n:=oM;have e:((R.take i).map (fun p=>(p.1-K,p.2-P))++R.drop i)=R.map (fun p=>(p.1-K,p.2-P)):=by
    rw[lT (by rw[l.o];exact nE _),List.drop_of_length_le (by rw[l.o];exact nE _),List.append_nil]
   rw[e,aF.o]at d;go_wp2;go_ret;exact⟨_,rfl,d.mono aM,hx⟩
def Xe(s:ByteArray):Bool:=xb s.size 1 16&&!decide (0<=Lib.idxFunc (fun r:Nat=>Oj r) true s)
def OC(w:V):PredAt Tryz.prog 231 #[] encR (fun r:Nat=>Oj r) w:=fun W r _=>by
 unfold FnGives;rw[show #[encR r]++(#[]:Array M)=#[O .i32 r]from rfl];exact(yE W r).mono fun e c ⟨a,b⟩=>⟨a,0,b⟩
def kI(w:V)(s:ByteArray):Calls Tryz.prog 232 #[.string s,.func (.func 231) #[] #[]] w fun e a=>e=.returned (.bool (decide (0<=Lib.idxFunc (fun r:Nat=>Oj r) true s)))/\oa w a:=
 Tryz.strings_ContainsFunc 231 #[] (enters_of Tryz.func231 kM rfl) _ s w (OC w)
def yH(w:V)(s:ByteArray):Calls Tryz.prog 195 #[.string s] w fun e i=>e=.returned (.bool (Xe s))/\oa w i:=by
 obtain⟨I,d⟩:=gX (decide (0<=Lib.idxFunc (fun r:Nat=>Oj r) true s));have a:=fun W=>kI W s;unfold Xe;rw[d]at a ⊢;have f:=ia a;clear a d;by_cases h:xb s.size 1 16=true
 ·rw[h];go_in;go_wp2_with(first|((go_at_call 194;(with_reducible refine(jk _ s.size 1 16).mono ?_);rw[h];rintro e j ⟨rfl,b⟩))|((go_at_call 232;refine cM (f.o _) ?_;rintro e k ⟨rfl,g⟩)));go_ret;exact⟨by simp,eA⟩
 ·have c:xb s.size 1 16=false:=by simpa using h
  rw[c];go_in;go_wp2_with(first|((go_at_call 194;(with_reducible refine(jk _ s.size 1 16).mono ?_);rw[c];rintro e j ⟨rfl,b⟩)));go_ret;exact⟨by simp,eA⟩
def lu(w:V)(s:ByteArray)(v:M)(ps:LP)(d a b c:Int)(h:Aa w v ps):Calls Tryz.prog 154 #[.agg #[.string s,v,O Y d,O Y a,O Y b,O Y c]] w fun e f=>e=.returned (O Y (if ud (Xe s) ps d a b c then 0 else 2))/\oa w f:=
 tJ w s v ps d a b c (Xe s) h (fun W=>yH W s)
def Ea(p:Pl):Bool:=ud (Xe p.name) p.shape p.depth p.density p.gx p.gz&&(xb p.way 0 7&&(!Cb p.ax&&(!Cb p.az&&xb p.skin 1 3)))
def Bs(w:V)(p:Pl)(v:M)(h:Aa w v p.shape)(hk:0<=p.skin):Calls Tryz.prog 103 #[.agg (pe p v)] w fun e w'=>e=.returned (O Y (if Ea p then 0 else 2))/\oa w w':=by
 obtain⟨a,c,rfl⟩:=h.form;obtain⟨nm,ps,d,de,gx,gz,t,u,z,R⟩:=p;dsimp only at h hk ⊢;obtain⟨n,hn⟩:=gX ps.length;rw[hn]at h ⊢;have o:=fun W (hW:oa w W)=>lu W nm (Z a n c) ps d de gx gz (h.i hW);obtain⟨B,hB⟩:=gX (ud (Xe nm) ps d de gx gz);rw[hB]at o;have hR:Ea ⟨nm,ps,d,de,gx,gz,t,u,z,R⟩=(B&&(xb t 0 7&&(!Cb u&&(!Cb z&&xb R 1 3)))):=by unfold Ea;rw[hB]
 rw[hR];unfold pe;dsimp only;clear hR hB hn h;cases B
 ·have g:=ia o;clear o;go_in;go_wp2_with(first|((go_at_call 154;refine cM (g.o _ eA) ?_;rintro e T ⟨rfl,b⟩;obtain⟨⟨j,k⟩,f⟩:=Jf w b)));go_ret;exact⟨rfl,eA⟩
 ·have g:=ia o;clear o;rw[Bool.true_and];by_cases k1:0<=t
  ·by_cases k2:t<=7
   ·(have x:xb t 0 7=true:=by simp[xb];omega);rw[x,Bool.true_and];(have q1:decide (t<0)=false:=by simp;omega);(have q2:decide (7<t)=false:=by simp;omega);clear x;cases k3:Cb u
    ·cases k4:Cb z
     ·rw[Bool.not_false,Bool.true_and,Bool.true_and];by_cases s1:1<=R
      ·by_cases s2:R<=3
       ·(have y:xb R 1 3=true:=by simp[xb];omega);rw[y];clear y;go_in;go_wp2_with(first|((go_at_call 154;refine cM (g.o _ eA) ?_;rintro e T ⟨rfl,b⟩;obtain⟨⟨j,k⟩,f⟩:=Jf w b))|((go_at_call 50;(with_reducible refine(zi _ u).mono ?_);rw[k3];rintro e w2 ⟨rfl,i⟩;obtain⟨⟨r,s⟩,m⟩:=Jf w i))|((go_at_call 50;(with_reducible refine(zi _ z).mono ?_);rw[k4];rintro e w3 ⟨rfl,l⟩;obtain⟨⟨K,P⟩,q⟩:=Jf w l)));go_ret;exact⟨rfl,eA⟩
       ·(have y:xb R 1 3=false:=by simp[xb];omega);rw[y];clear y;go_in;go_wp2_with(first|((go_at_call 154;refine cM (g.o _ eA) ?_;rintro e T ⟨rfl,b⟩;obtain⟨⟨j,k⟩,f⟩:=Jf w b))|((go_at_call 50;(with_reducible refine(zi _ u).mono ?_);rw[k3];rintro e w2 ⟨rfl,i⟩;obtain⟨⟨r,s⟩,m⟩:=Jf w i))|((go_at_call 50;(with_reducible refine(zi _ z).mono ?_);rw[k4];rintro e w3 ⟨rfl,l⟩;obtain⟨⟨K,P⟩,q⟩:=Jf w l)));go_ret;exact⟨rfl,eA⟩
      ·(have y:xb R 1 3=false:=by simp[xb];omega);rw[y];clear y;go_in;go_wp2_with(first|((go_at_call 154;refine cM (g.o _ eA) ?_;rintro e T ⟨rfl,b⟩;obtain⟨⟨j,k⟩,f⟩:=Jf w b))|((go_at_call 50;(with_reducible refine(zi _ u).mono ?_);rw[k3];rintro e w2 ⟨rfl,i⟩;obtain⟨⟨r,s⟩,m⟩:=Jf w i))|((go_at_call 50;(with_reducible refine(zi _ z).mono ?_);rw[k4];rintro e w3 ⟨rfl,l⟩;obtain⟨⟨K,P⟩,q⟩:=Jf w l)));go_ret;exact⟨rfl,eA⟩
     ·go_in;go_wp2_with(first|((go_at_call 154;refine cM (g.o _ eA) ?_;rintro e T ⟨rfl,b⟩;obtain⟨⟨j,k⟩,f⟩:=Jf w b))|((go_at_call 50;(with_reducible refine(zi _ u).mono ?_);rw[k3];rintro e w2 ⟨rfl,i⟩;obtain⟨⟨r,s⟩,m⟩:=Jf w i))|((go_at_call 50;(with_reducible refine(zi _ z).mono ?_);rw[k4];rintro e w3 ⟨rfl,l⟩;obtain⟨⟨K,P⟩,q⟩:=Jf w l)));go_ret;exact⟨rfl,eA⟩
    ·go_in;go_wp2_with(first|((go_at_call 154;refine cM (g.o _ eA) ?_;rintro e T ⟨rfl,b⟩;obtain⟨⟨j,k⟩,f⟩:=Jf w b))|((go_at_call 50;(with_reducible refine(zi _ u).mono ?_);rw[k3];rintro e w2 ⟨rfl,i⟩;obtain⟨⟨r,s⟩,m⟩:=Jf w i)));go_ret;exact⟨rfl,eA⟩
   ·(have x:xb t 0 7=false:=by simp[xb];omega);rw[x,Bool.false_and];clear x;go_in;go_wp2_with(first|((go_at_call 154;refine cM (g.o _ eA) ?_;rintro e T ⟨rfl,b⟩;obtain⟨⟨j,k⟩,f⟩:=Jf w b)));go_ret;exact⟨rfl,eA⟩
  ·have x:xb t 0 7=false:=by simp[xb];omega
   rw[x,Bool.false_and];clear x;go_in;go_wp2_with(first|((go_at_call 154;refine cM (g.o _ eA) ?_;rintro e T ⟨rfl,b⟩;obtain⟨⟨j,k⟩,f⟩:=Jf w b)));go_ret;exact⟨rfl,eA⟩
end
section
open Go.RowKit Go.Shelf Go.Sort
def Dh{α:Type}(B:α->Prop)[DecidablePred B](cf:α->α->Int)(d:{x // B x})(xs:List α):List α:=
 if h:∀x∈xs,B x then
  (@pdq {x // B x} ⟨d⟩ (ltOf fun x y:{x // B x}=>cf x.1 y.1) (xs.attachWith B h).toArray 0 xs.length (Lib.bitLen xs.length) true true).toList.map (·.1)
 else xs
def jl{α:Type}{B:α->Prop}{xs:List α}(h:∀x∈xs,B x):(xs.attachWith B h).map (·.1)=xs:=sM
def BP(p:Int×Int):Prop:=Bd 1000000 p.1/\Bd 1000000 p.2
instance:DecidablePred BP:=fun p=>by unfold BP Bd;exact inferInstance
def Ev:{x // BP x}:=⟨(0,0),by decide⟩
def Mk(p q:Int×Int):Int:=p.1-q.1
def re(ps:LP):LP:=Dh BP Mk Ev ps
instance:Inhabited {x // BP x}:=⟨Ev⟩
def Ks(x y:{x // BP x}):ltOf (fun x y:{x // BP x}=>Mk x.1 y.1) x y=decide (x.1.1<y.1.1):=by unfold ltOf Mk;rw[decide_eq_decide];dsimp only;omega
def Dl:@SWO {x // BP x} (ltOf fun x y:{x // BP x}=>Mk x.1 y.1) where
 irrefl x:=by rw[Ks];simp
 trans x y z h1 h2:=by rw[Ks]at *;simp only[decide_eq_true_eq]at *;omega
 ntrans x y z h1 h2:=by rw[Ks]at *;simp only[decide_eq_false_iff_not]at *;omega
def UG(x y:{x // BP x})(W:V):Calls Tryz.prog 169 #[.agg #[O Y x.1.1,O Y x.1.2],.agg #[O Y y.1.1,O Y y.1.2]] W fun e i=>e=.returned (O Y (Mk x.1 y.1))/\∃q os',i=grow (W.drewN q) os':=by obtain⟨⟨j,k⟩,⟨c,d⟩,a⟩:=x;obtain⟨⟨l,m⟩,⟨f,g⟩,b⟩:=y;unfold Mk;dsimp only at *;clear a b;go_in;go_wp2;go_ret;exact⟨rfl,0,_,by rw[alloc_eq_grow,alloc_eq_grow,grow_grow];rfl⟩
def Lk(blk a size:Nat)(w:V):CmpLays Tryz.prog 169 #[] (fun x:{x // BP x}=>pc x.1) 2 (fun x y=>Mk x.1 y.1) blk a size w:=
 fun _ _ _ _ x y=>UG x y _
def Ay{β:Type}[Inhabited β]{lt:β->β->Bool}(hO:SWO lt)(d:Array β)(l:Nat):(pdq lt d 0 d.size l true true).size=d.size/\(pdq lt d 0 d.size l true true).toList.Perm d.toList:=by
 obtain⟨a,_,b⟩:=(pdq_sorts lt hO d 0 d.size l true true (Nat.zero_le _) (nE _) (Or.inl rfl)).1;refine⟨a,?_⟩;generalize pdq lt d 0 d.size l true true=d' at a b ⊢;have c:d'.extract 0 d.size=d':=by rw[<-a];exact Array.extract_size
 rw[c,Array.extract_size]at b;exact b
def qK{α:Type}{B:α->Prop}[DecidablePred B]{cf:α->α->Int}{d:{x // B x}}{xs:List α}(hO:@SWO {x // B x} (ltOf fun x y:{x // B x}=>cf x.1 y.1)):(Dh B cf d xs).Perm xs:=by
 unfold Dh;split
 ·rename_i h;have b:=(@Ay {x // B x} ⟨d⟩ _ hO (xs.attachWith B h).toArray (Lib.bitLen xs.length)).2;have a:=b.map (·.1);rw[show (xs.attachWith B h).toArray.size=xs.length by simp]at a;have e:(xs.attachWith B h).toArray.toList.map (·.1)=xs:=jl h;rw[e]at a;exact a
 ·exact List.Perm.refl _
def Wm(ps:LP):(re ps).Perm ps:=qK Dl
def CB(w:V)(base g n c:Nat)(ps:LP)(h:Ga 55 2 w base (Z (X ⟨g,0,J⟩) n c) (ps.map pc))(z:Se 1000000 ps)(K:ps.length<=1000000):Calls Tryz.prog 170 #[Z (X ⟨g,0,J⟩) n c,.func (.func 169) #[] #[]] w fun e f=>e=.returned (.tuple #[])/\Ga 55 2 f base (Z (X ⟨g,0,J⟩) n c) ((re ps).map pc)/\w.grownBy f (X g):=by
 have p:=h.len;rw[lL]at p;obtain⟨d,o⟩:=gX ((ps.attachWith BP z).toArray);have a:d.size=n:=by rw[<-o,p,List.size_toArray];exact List.length_attachWith
 have j:d.toList.map (fun x=>pc x.1)=ps.map pc:=by
  rw[<-o,show (fun x:{x // BP x}=>pc x.1)=pc ∘ (·.1)from rfl,<-List.map_map]
  congr 1
  exact jl z
 have T:re ps=(pdq (ltOf fun x y:{x // BP x}=>Mk x.1 y.1) d 0 d.size (Lib.bitLen d.size) true true).toList.map (·.1):=by
  unfold re Dh;rw[dif_pos (show ∀x∈ps,BP x from z),a,o,p]
 have hg:=(h.lt g rfl).2;have R:∀args w,(callFunc 169 args).run Tryz.prog w = .ok (.enter 169 args) w:=enters_of Tryz.func169 kM rfl;have s:Ga 55 2 w base (Z (X ⟨g,0,J⟩) n c) (d.toList.map fun x=>pc x.1):=by rw[j];exact h
 have t:=oB (enc:=fun x:{x // BP x}=>pc x.1) (fun _=>rfl) s;have b:Lib.bitLen d.size<4611686018427387904:=Nat.lt_of_le_of_lt (Lib.bitLen_le d.size 62 oM oM) oM;have l:Calls Tryz.prog 213 #[Z (X ⟨g,0,J⟩) d.size c,O Y 0,O Y d.size,O Y (Lib.bitLen d.size),.func (.func 169) #[] #[]] w fun e f=>e=.returned (.tuple #[])/\SWK (fun x:{x // BP x}=>pc x.1) 2 w g 0 (pdq (ltOf fun x y:{x // BP x}=>Mk x.1 y.1) d 0 d.size (Lib.bitLen d.size) true true) f:=AnyQ.pdqsortCmpFunc_all (P:=Tryz.prog) (ρ:=Tryz.pdqPoint_ren) Tryz.pdqPoint 2 Tryz.isAgg55 Tryz.sizeOf55 (fun x:{x // BP x}=>pc x.1) (fun x y=>Mk x.1 y.1) 169 #[] Dl g 0 c d w R (Lk g 0 d.size w) ⟨fun _=>rfl,fun x v hv=>by simp[pc]at hv;rcases hv with rfl|rfl<;>rfl,t,hg⟩ (d.size+1) 0 d.size (Lib.bitLen d.size) d w oM rfl (SWK.start t) (Nat.zero_le _) (nE _) oM b (Or.inl rfl);have k:Calls Tryz.prog 163 #[O .u64 (d.size:Int)] w fun e f=>e=.returned (O Y (Lib.bitLen d.size:Nat))/\f=w:=by
  have h:=Tryz.bits_Len (d.size:Int) w oM oM
  rwa [Int.toNat_natCast]at h
 have wr:IntKind.u64.wrap (d.size:Int)=d.size:=by simp[IntKind.wrap,IntKind.bits,IntKind.signed];omega
 have HX:=ia T;have H':=ia s;rw[a]at wr;have i:=ia a;have W:n<=1000000:=oM;rw[a]at l k;have r:=ia l;have q:=ia k;obtain⟨L,u⟩:=gX (Lib.bitLen n);rw[u]at l k;have Hp:=ia l;have Hl:=ia k;have HL:=ia u;clear l k T s o a u b R j t h p K r q;go_in;go_wp2_with(first|((go_at_call 163;(with_reducible refine Hl.o.mono ?_);rintro e f ⟨rfl,rfl⟩))|((go_at_call 213;(with_reducible refine Hp.o.mono ?_);rintro e f ⟨rfl,m,os,rfl⟩)))
 go_end0
 refine⟨rfl,?_,lr _⟩;have:=IA (m:=m) (os:=os) (enc:=fun x:{x // BP x}=>pc x.1) (fun _=>rfl) (d':=pdq (ltOf fun x y:{x // BP x}=>Mk x.1 y.1) d 0 n L true true) H'.o ?_
 ·rw[HX.o,i.o,HL.o,List.map_map];exact this
 ·have:=(Ay Dl d L).1;rw[i.o]at this ⊢;exact this
