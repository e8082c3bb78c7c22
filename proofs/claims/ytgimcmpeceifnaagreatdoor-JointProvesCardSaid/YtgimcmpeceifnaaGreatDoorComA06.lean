import Derived.Test.YtgimcmpeceifnaaGreatDoorComA05
import Derived.Deep.CutBlock
import Derived.Deep.DeepCutAuto
import Derived.Test.YtgimcmpeceifnaaGreatDoorComA01
set_option maxRecDepth 1000000
set_option maxHeartbeats 16000000
set_option linter.all false
open Go.Value renaming int->O,slice->Z
open Go.IntKind renaming i64->Y
open Option renaming some->X,none->J
open Go renaming World->V,Value->M
namespace Go.Proofs.YtgimcmpeceifnaaGreatDoor.Cop
section
open Go.RowKit Go.Shelf
def Kd(a b:Int):Bool:=(!(a==0) || !(b==0))&&Ra a (-100) 100&&Ra b (-100) 100
def pd(nb:Bool)(ps:LP)(d a b c:Int):Bool:=nb&&se ps&&Ra d 1 2000&&Ra a 1 10000&&Kd b c
def SV(w:V)(s:ByteArray)(a:Option Addr)(n c:Nat)(d f b e:Int)(t4:M)(W:V):Prop:=
 t4 = .bool (Kd b e)/\Ba w W/\W.heap[w.heap.size]?=X (.cells #[.string s,Z a n c,O Y d,O Y f,O Y b,O Y e] 93 (0,0))
def fS w s v ps d l b f nb(h:Ia w v ps)(K:∀W,Calls Tryz.prog 196 #[.string s] W fun e w'=>e=.returned (.bool nb)/\Ba W w'):Calls Tryz.prog 153 #[.agg #[.string s,v,O Y d,O Y l,O Y b,O Y f]] w fun e w'=>e=.returned (O Y (if pd nb ps d l b f then 0 else 2))/\Ba w w':=by
 obtain⟨a,c,rfl⟩:=h.form;obtain⟨n,hn⟩:=gX ps.length;rw[hn]at h ⊢;have y:=za K;have p:=fun W (hW:Ba w W)=>RR W (Z a n c) ps (h.f hW);obtain⟨x,o⟩:=gX (se ps);rw[o]at p;obtain⟨R,j⟩:∃R:Int,(if pd nb ps d l b f then (0:Int)else 2)=R:=⟨_,rfl⟩;rw[j];unfold pd at j;rw[o]at j;have z:=za p;have HR:=za j;clear K p j o hn h;go_in;go_upto_region 2 with fail;go_cut [4] (SV w s a n c d l b f)
 case first =>
  by_cases hz:b=0/\f=0
  ·obtain⟨rfl,rfl⟩:=hz;go_wp2;go_meet;exact⟨rfl,eA,by rw[tg,if_neg sM];exact mc _ _ _ rfl⟩
  ·have L:(b≠0)\/(b=0/\f≠0):=by
    by_cases e:b=0
    ·exact .inr ⟨e,fun e2=>hz ⟨e,e2⟩⟩
    ·exact .inl e
   clear hz;have hc:(b==0)=false\/((b==0)=true/\(f==0)=false):=by simpa using L
   have u:Kd b f=(Ra b (-100) 100&&Ra f (-100) 100):=by
    unfold Kd;rcases hc with f1|⟨f1,f2⟩<;>simp[*]
   obtain⟨k,k1⟩:=gX (Ra b (-100) 100);obtain⟨m,k2⟩:=gX (Ra f (-100) 100);rw[k1,k2]at u;have hd:(k=false/\Kd b f=false)\/(k=true/\m=false/\Kd b f=false)\/(k=true/\m=true/\Kd b f=true):=by cases k<;>cases m<;>simp[u]
   clear L u;rcases hc with f1|⟨f1,f2⟩<;>rcases hd with ⟨rfl,hg⟩|⟨rfl,rfl,hg⟩|⟨rfl,rfl,hg⟩
   all_goals
    have aa:=za hg;clear hg;go_wp2_with(first|((go_at_call 195;(with_reducible refine(mi _ b (-100) 100).mono ?_);rintro e w1 ⟨rfl,g⟩;obtain⟨ab,ad⟩:=g.cells;(try(refine Ba.t g (n:=w.heap.size) ?_ (fun _=>?_);focus(first|(go_simp;done)|omega)));(try(refine Ba.t g (n:=w.heap.size+1) ?_ (fun _=>?_);focus(first|(go_simp;done)|omega)))))|((go_at_call 195;(with_reducible refine(mi _ f (-100) 100).mono ?_);rintro e w2 ⟨rfl,i⟩;obtain⟨ac,ae⟩:=i.cells;(try(refine Ba.t i (n:=w.heap.size) ?_ (fun _=>?_);focus(first|(go_simp;done)|omega)));(try(refine Ba.t i (n:=w.heap.size+1) ?_ (fun _=>?_);focus(first|(go_simp;done)|omega))))));go_meet;exact⟨by rw[aa.o],eA,by rw[Ba.block (a:=(w.alloc (.cells #[.string s,Z a n c,O Y d,O Y l,O Y b,O Y f] 93))) eA sM];exact mc _ _ _ rfl⟩
 case rest =>
  obtain⟨rfl,hx,t⟩:=hcut;have b0:=Aa t 0 (.string s);have b1:=Aa t 1 (Z a n c);have b2:=Aa t 2 (O Y d);have b3:=Aa t 3 (O Y l);have zb:=Ya t;clear t;have j:=HR.o;obtain⟨G,u⟩:=gX (Kd b f);rw[u]at j ⊢;clear u HR;obtain⟨k,k1⟩:=gX (Ra d 1 2000);obtain⟨m,k2⟩:=gX (Ra l 1 10000);rw[k1,k2]at j;have hc:(nb=false/\R=2)\/(nb=true/\x=false/\R=2)\/(nb=true/\x=true/\k=false/\R=2)\/(nb=true/\x=true/\k=true/\m=false/\R=2)\/(nb=true/\x=true/\k=true/\m=true/\G=false/\R=2)\/(nb=true/\x=true/\k=true/\m=true/\G=true/\R=0):=by
   rw[<-j];clear j k1 k2 y z;cases nb<;>cases x<;>cases k<;>cases m<;>cases G<;>simp
  clear j;rcases hc with ⟨rfl,rfl⟩|⟨rfl,rfl,rfl⟩|⟨rfl,rfl,rfl,rfl⟩|⟨rfl,rfl,rfl,rfl,rfl⟩|⟨rfl,rfl,rfl,rfl,rfl,rfl⟩|⟨rfl,rfl,rfl,rfl,rfl,rfl⟩
  all_goals
   go_wp2_with(first|((go_at_call 196;refine cM (y.o _) ?_;rintro e w1 ⟨rfl,g⟩;obtain⟨ab,ad⟩:=g.cells;(have y1:=g.lt zb)))|((go_at_call 197;refine cM (z.o _ eA) ?_;rintro e w2 ⟨rfl,i⟩;obtain⟨ac,ae⟩:=i.cells;(have y2:=i.lt y1)))|((go_at_call 195;(with_reducible refine(mi _ d 1 2000).mono ?_);rintro e w3 ⟨rfl,q⟩;obtain⟨af,ah⟩:=q.cells;(try(refine Ba.t q (n:=w.heap.size) ?_ (fun _=>?_);focus(first|(go_simp;done)|omega)));(try(refine Ba.t q (n:=w.heap.size+1) ?_ (fun _=>?_);focus(first|(go_simp;done)|omega)))))|((go_at_call 195;(with_reducible refine(mi _ l 1 10000).mono ?_);rintro e w4 ⟨rfl,r⟩;obtain⟨ag,ai⟩:=r.cells;(try(refine Ba.t r (n:=w.heap.size) ?_ (fun _=>?_);focus(first|(go_simp;done)|omega)));(try(refine Ba.t r (n:=w.heap.size+1) ?_ (fun _=>?_);focus(first|(go_simp;done)|omega))))));go_ret;exact⟨rfl,eA⟩
end
section
open Go.RowKit Go.Shelf Go.Lib
def Iz w a b c d:Calls Tryz.prog 53 #[.agg #[O Y a,O Y b],.agg #[O Y c,O Y d]] w fun e f=>e=.returned (.bool (decide (max a c<min b d)))/\Ba w f:=by
 go_in;go_wp2
 all_goals go_ret
 all_goals exact⟨nM oM,eA⟩
end
section
open Go.RowKit Go.Shelf
def Bg(ps:LP):Nat:=(Pc (fun p=>Gf ps==p) ps).toNat
def Qc(ps:LP):LP:=(ps.drop (Bg ps)++ps.take (Bg ps)).map fun p=>(p.1-(Ta ps).1,p.2-(Ta ps).2)
def tD{ps:LP}(h:ps≠[]):Gf ps∈ps:=by
 cases ps with
 | nil=>exact absurd rfl h
 | cons p ps =>
  have:∀(b:LP)(a:Int×Int),b.foldl ri a=a\/b.foldl ri a∈b:=by
   intro b;induction b with
   | nil=>intro a;exact .inl rfl
   | cons q b c =>
    intro a;rw[List.foldl_cons];rcases c (ri a q)with e|e
    ·rw[e];unfold ri;split
     ·exact .inr sM
     ·exact .inl rfl
    ·exact .inr (mC _ e)
  rcases this ps p with e|e
  ·rw[show Gf (p::ps)=ps.foldl ri p from rfl,e];simp
  ·rw[show Gf (p::ps)=ps.foldl ri p from rfl];exact mC _ e
def nv{ps:LP}(h:ps≠[]):Pc (fun p=>Gf ps==p) ps=(Bg ps:Int)/\Bg ps<ps.length:=by
 obtain⟨i,c,b⟩:=List.mem_iff_getElem.1 (tD h);unfold Bg;unfold Pc;cases hf:ps.findIdx? (fun p=>Gf ps==p)with
 |none=>
  rw[List.findIdx?_eq_none_iff]at hf;have:=hf _ (tD h);simp at this
 | some j =>
  rw[List.findIdx?_eq_some_iff_getElem]at hf;obtain⟨a,_⟩:=hf;exact⟨by simp,by simpa using a⟩
def CE{k ps}(h:qg k ps)(f:ps≠[]):Bd k (Ta ps).1/\Bd k (Ta ps).2:=by
 cases ps with
 | nil=>exact absurd rfl f
 | cons p ps =>
  have:∀(b:LP)(a:Int×Int),(Bd k a.1/\Bd k a.2)->qg k b->Bd k (b.foldl (fun o q=>(min o.1 q.1,min o.2 q.2)) a).1/\Bd k (b.foldl (fun o q=>(min o.1 q.1,min o.2 q.2)) a).2:=by
   intro b;induction b with
   | nil=>intro a d _;exact d
   | cons q b g =>
    intro a d e;refine g _ ?_ (fun z c=>e z (mC _ c));have:=e q sM;unfold Bd at *;dsimp only;omega
  exact this ps p (h p sM) (fun z c=>h z (mC _ c))
def qg.rot{k ps}(h:qg k ps) m:qg k (ps.drop m++ps.take m):=fun p b=>by
 rcases List.mem_append.1 b with a|a
 ·exact h p (List.mem_of_mem_drop a)
 ·exact h p (List.mem_of_mem_take a)
def KT{T W f g d e}(j:Ia W f d)(k:Ia W g e):Sl T 1 (Tr T) (W.alloc (.cells #[f,g] T)) (Z (X ⟨W.heap.size,0,J⟩) 2 2) [d,e]:=by
 refine⟨[[f],[g]],rfl,by simp,⟨rfl,_,_,rfl,nE _,by unfold maxLen;omega,.inr ⟨W.heap.size,0,_,_,rfl,aN W _,?_⟩⟩,?_⟩
 ·intro i x a
  match i,a with
  | 0,a=>simpa using a
  | 1,a=>simpa using a
  | i+2,a=>simp at a
 ·intro i c x b a
  match i,b,a with
  | 0,b,a=>simp at b a;subst b a;exact⟨_,rfl,j.f ((eR _).alloc _)⟩
  | 1,b,a=>simp at b a;subst b a;exact⟨_,rfl,k.f ((eR _).alloc _)⟩
  | i+2,b,a=>simp at b
def jH(w:V)(base:Nat)(f:Int×Int->Int×Int)(a:LP)(v5:M)(g:Nat)(b:M)(W:V):Prop:=
 ∃i:Nat,i<=a.length/\b=O Y i/\g=a.length-i/\Ba w W/\base<=W.heap.size/\Ea 91 2 W base v5 (((a.take i).map f++a.drop i).map pc)
def fC{f}{a:LP}{i q}(h:a[i]?=X q):(((a.take i).map f++a.drop i).map pc)[i]?=X (pc q):=by have b:=(lS.1 h).1;rw[lP,List.getElem?_append_right (by simp;omega)];simp only[lL,List.length_take];rw[show i-min i a.length=0 by omega,List.getElem?_drop,Nat.add_zero,h];rfl
def YB{f}{a:LP}{i q}(h:a[i]?=X q){x z}(e:f q=(x,z)) d(c:d=[O Y x,O Y z]):(((a.take i).map f++a.drop i).map pc).set i d=(((a.take (i+1)).map f++a.drop (i+1)).map pc):=by
 have g:=(lS.1 h).1;subst c;have b:(a.drop i)=q::a.drop (i+1):=by
  rw[List.drop_eq_getElem_cons g];have:=(lS.1 h).2;rw[this]
 have j:((a.take i).map f).map pc=((a.take i).map f).map pc:=rfl;rw[ze _ _ _ h,List.map_append,List.map_append,b,List.set_append_right _ _ (by simp;omega),List.map_cons];simp only[lL,List.length_take];rw[show i-min i a.length=0 by omega,List.set_cons_zero];simp[e,pc]
def Ea.pair{T w base g n c cs i p}(h:Ea T 2 w base (Z (X ⟨g,0,J⟩) n c) cs)(b:cs[i]?=X (pc p)) u v:Ea T 2 ((w.setCell ⟨g,i*2,J⟩ u).setCell ⟨g,i*2+1,J⟩ v) base (Z (X ⟨g,0,J⟩) n c) (cs.set i [u,v]):=by have e:=Ea.stored (j:=0) h b dM u;have f:=(lS.1 b).1;have a:=Ea.stored (i:=i) (j:=1) (d:=[u,O Y p.2]) e (by rw[List.getElem?_set_self oM];rfl) dM v;rw[List.set_set]at a;exact a
def AG w v ps(h:Ia w v ps)(h0:0<ps.length)(aX:ps.length<=1000000)(hb:qg 1000000 ps):Calls Tryz.prog 204 #[v] w (Ol 91 2 w ((Qc ps).map pc)):=by
 obtain⟨a,c,rfl⟩:=h.form;have am:ps≠[]:=by intro e;subst e;simp at h0
 obtain⟨⟨a8,a9⟩,aA⟩:∃p,ps[0]?=X p:=⟨ps[0],by simp⟩;obtain⟨b,o,rfl,aZ,_,_⟩:=h.at' aA;have ak:=CE hb am;have ac:=nv am;have hQ:Qc ps=(ps.drop (Bg ps)++ps.take (Bg ps)).map fun p=>(p.1-(Ta ps).1,p.2-(Ta ps).2):=rfl;have ae:=hb.rot (Bg ps);rw[hQ];have al:=h.le;have aa:=fun W (hW:Ba w W)=>AE W _ ps (h.f hW) h0;have ab:=fun W (hW:Ba w W)=>EC W _ ps (h.f hW) h0;obtain⟨⟨K,L⟩,hl⟩:∃p,Ta ps=p:=⟨_,rfl⟩;obtain⟨⟨mx,mz⟩,hm⟩:∃p,Gf ps=p:=⟨_,rfl⟩;have y:=fun W (hW:Ba w W)=>pP W _ ps mx mz (h.f hW);rw[<-hm,ac.1]at y;obtain⟨k,hk⟩:=gX (Bg ps);rw[hk]at y ae ac ⊢;rw[hl]at aa ak ⊢;rw[hm]at ab;obtain⟨R,af⟩:=gX (ps.drop k++ps.take k);rw[af]at ae ⊢;obtain⟨n,hn⟩:=gX ps.length;have a2:k<n:=by have:=ac.2;omega
 have aB:R.length=n:=by rw[<-af];simp;omega
 have ap:Ia w _ _:=h.drop h0 (m:=k) oM;have aC:Ia w _ _:=h.take h0 (m:=k) (c':=k) oM (nE _) oM;rw[hn]at h aa ab y al ap ⊢;unfold maxLen at al;have t:=fun W (hW:Ba w W)=>YP ((W.alloc (.cells #[Z (X ⟨b,o+k*2,J⟩) (n-k) (c-k),Z (X ⟨b,o,J⟩) k k] 36)).drew) (Z (X ⟨W.heap.size,0,J⟩) 2 2) [ps.drop k,ps.take k] (KT (T:=36) (ap.f hW) (aC.f hW)) (by
  unfold Fk;simp;omega)
 have e2:[ps.drop k,ps.take k].flatten=R:=by simpa using af
 rw[e2]at t;obtain⟨RL,ai⟩:=gX ((R.map (fun p=>(p.1-K,p.2-L))).map pc);rw[ai];have aF:=za ai;clear ai;have aI:=za aa;have aJ:=za ab;have aH:=za y;have aG:=za t;have aK:=za ae;have av:=za ak;have l:=za aB;have k1:(0:Int)<=(k:Int):=oM;have k2:(k:Int)<=(n:Int):=oM;have k3:(n:Int)<=(c:Int):=oM;have k4:(k:Int)<(c:Int):=oM;have k5:k<c:=oM;have a3:c<=9223372036854775807:=oM;clear aa ab y t ae ak aB ac hk hl hm af hn ap aC al h hQ e2 hb am aA h0 aX;go_in;go_wp2_with(first|((go_at_call 232;refine cM (aI.o _ eA) ?_;rintro e w1 ⟨rfl,ag⟩;obtain⟨aO,aS⟩:=ag.cells))|((go_at_call 233;refine cM (aJ.o _ eA) ?_;rintro e w2 ⟨rfl,u⟩;obtain⟨aP,aT⟩:=u.cells))|((go_at_call 245;refine cM (aH.o _ eA) ?_;rintro e w3 ⟨rfl,x⟩;obtain⟨aQ,aU⟩:=x.cells)));have ah:Ba w w3:=eA;have t:=aG.o w3 ah;have aE:=za t;clear t;have zo:w1.heap.size<w3.heap.size:=Nat.lt_of_lt_of_le (by have:=u.size;simp at this;omega) x.size;have o2:w2.cell? ⟨w1.heap.size,0,J⟩=X (O Y K):=u.d sM;have o3:w2.cell? ⟨w1.heap.size,1,J⟩=X (O Y L):=u.d sM;have o4:=x.d o2;have o5:=x.d o3;have O4:=za o4;have O5:=za o5;clear o2 o3 o4 o5
 first|(go_region_with (((go_at_call 246;(with_reducible refine aE.o.mono ?_);rintro e w4 ⟨v4,rfl,z,aD⟩;obtain⟨a4,n4,c4,rfl⟩:=z.i))))|fail
 all_goals go_wp2
 have az:=z.len;rw[lL,l.o]at az;obtain rfl:n=n4:=az.symm;obtain⟨g4,rfl,ay,a0⟩:=z.blk (by rw[lL,l.o];omega);have r:Ba w3 w4:=((eR w3).alloc _).drew.trans aD;have s:Ba w w4:=(((ag.alloc _).trans u).trans x).trans r;have p4:=r.d O4.o;have p5:=r.d O5.o;simp only[Yb,wZ]at ay;obtain⟨bo,aj⟩:=gX w1.heap.size;have a7:w.heap.size<=bo:=by rw[<-aj];exact ag.size
 rw[aj]at zo p4 p5 ⊢;have an:=z.mono (b':=w3.heap.size) sM;have aq:=r.size;obtain⟨B,hB⟩:=gX w3.heap.size;rw[hB]at zo an aq ay;have aM:w.heap.size<=B:=oM;clear aj hB z ag u x ah aD r aO aS aP aT aQ aU;go_loopg [24] n (fun g aY W=>jH w B (fun p=>(p.1-K,p.2-L)) R (Z (X ⟨g4,0,J⟩) n c4) g aY W/\W.cell? ⟨bo,0,J⟩=X (O Y K)/\W.cell? ⟨bo,1,J⟩=X (O Y L))
 case atStart=>exact⟨⟨0,by omega,rfl,by rw[l.o];rfl,s,aq,by simpa using an⟩,p4,p5⟩
 case round =>
  clear p4 p5 an s aq;obtain⟨⟨i,hi,rfl,rfl,hx,a6,d⟩,q0,q1⟩:=hrel;rw[l.o]at hi;by_cases aW:i<n
  ·obtain⟨⟨qx,qz⟩,hq⟩:∃q,R[i]?=X q:=⟨R[i]'(by rw[l.o];omega),by simp[l.o,aW]⟩;have ad:=fC (f:=fun p=>(p.1-K,p.2-L)) hq;have d0:=d.cell (j:=0) ad rfl;have d1:=d.cell (j:=1) ad rfl;simp only[Nat.add_zero]at d0;dsimp only at d0 d1;have f0:=d.frozen;have ax:=aK.o (qx,qz) (lM hq);have au:=za ax;have ar:=fun(W:V)(h:Ea 91 2 W B (Z (X ⟨g4,0,J⟩) n c4) (((R.take i).map (fun p=>(p.1-K,p.2-L))++R.drop i).map pc))=>h.pair ad (O Y (qx-K)) (O Y (qz-L));rw[YB (f:=fun p=>(p.1-K,p.2-L)) hq rfl _ rfl]at ar;have aL:=za ar;have aw:=za d;have zg:=(d.lt g4 rfl).2;have zb:bo<wr.heap.size:=World.block_lt_of_cell? wr _ q0;have p1:(0:Int)<=(i:Int):=oM;have p2:(i:Int)<(n:Int):=oM;have a1:¬g4=bo:=oM;clear ar ad hq ax d;go_wp2
   go_region_with (((go_at_call 247;(with_reducible refine(fy _ qx qz K L (au.o.1.mono dM) (au.o.2.mono dM) (av.o.1.mono dM) (av.o.2.mono dM)).mono ?_);rintro e w5 ⟨rfl,r⟩;obtain⟨aR,aV⟩:=r.cells;(try simp only[Ig,Gg,Yb]at aR aV))))
   all_goals go_wp2
   all_goals
    have s:Ba wr w5:=(eR wr).drew.trans r;have a5:=s.size;have ao:=aL.o w5 (aw.o.ext s);have ba:=s.d q0;have bb:=s.d q1;go_roundg (n-(i+1))
    case measure=>have:=l.o;omega
    case rel=>exact⟨⟨i+1,by have:=l.o;omega,by go_num,by rw[l.o],((hx.trans s).set dO _).set dO _,by simp only[fg];omega,ao⟩,by go_simp,by go_simp⟩
  ·obtain rfl:i=n:=oM;have e:((R.take i).map (fun p=>(p.1-K,p.2-L))++R.drop i)=R.map (fun p=>(p.1-K,p.2-L)):=by
    rw[lT (by rw[l.o];exact nE _),List.drop_of_length_le (by rw[l.o];exact nE _),List.append_nil]
   rw[e,aF.o]at d;go_wp2;go_ret;exact⟨_,rfl,d.mono aM,hx⟩
def Ee(s:ByteArray):Bool:=Ra s.size 1 16&&!decide (0<=Lib.idxFunc (fun r:Nat=>pf r) true s)
def FI w:PredAt Tryz.prog 227 #[] encR (fun r:Nat=>pf r) w:=fun W r _=>by
 unfold FnGives;rw[show #[encR r]++(#[]:Array M)=#[O .i32 r]from rfl];exact(FL W r).mono fun e c ⟨a,b⟩=>⟨a,0,b⟩
def QP w s:Calls Tryz.prog 228 #[.string s,.func (.func 227) #[] #[]] w fun e a=>e=.returned (.bool (decide (0<=Lib.idxFunc (fun r:Nat=>pf r) true s)))/\Ba w a:=
 Tryz.strings_ContainsFunc 227 #[] (enters_of Tryz.func227 kM rfl) _ s w (FI w)
def GP w s:Calls Tryz.prog 196 #[.string s] w fun e i=>e=.returned (.bool (Ee s))/\Ba w i:=by
 obtain⟨I,d⟩:=gX (decide (0<=Lib.idxFunc (fun r:Nat=>pf r) true s));have a:=fun W=>QP W s;unfold Ee;rw[d]at a ⊢;have f:=za a;clear a d;by_cases h:Ra s.size 1 16=true
 ·rw[h];go_in;go_wp2_with(first|((go_at_call 195;(with_reducible refine(mi _ s.size 1 16).mono ?_);rw[h];rintro e j ⟨rfl,b⟩))|((go_at_call 228;refine cM (f.o _) ?_;rintro e k ⟨rfl,g⟩)));go_ret;exact⟨by simp,eA⟩
 ·have c:Ra s.size 1 16=false:=by simpa using h
  rw[c];go_in;go_wp2_with(first|((go_at_call 195;(with_reducible refine(mi _ s.size 1 16).mono ?_);rw[c];rintro e j ⟨rfl,b⟩)));go_ret;exact⟨by simp,eA⟩
def KE w s v ps d a b c(h:Ia w v ps):Calls Tryz.prog 153 #[.agg #[.string s,v,O Y d,O Y a,O Y b,O Y c]] w fun e f=>e=.returned (O Y (if pd (Ee s) ps d a b c then 0 else 2))/\Ba w f:=
 fS w s v ps d a b c (Ee s) h (fun W=>GP W s)
def Fa(p:Pl):Bool:=pd (Ee p.name) p.shape p.depth p.density p.gx p.gz&&(Ra p.way 0 7&&(!Uc p.ax&&(!Uc p.az&&Ra p.skin 1 3)))
def RF w p v(h:Ia w v p.shape)(hk:0<=p.skin):Calls Tryz.prog 112 #[.agg (Dd p v)] w fun e w'=>e=.returned (O Y (if Fa p then 0 else 2))/\Ba w w':=by
 obtain⟨a,c,rfl⟩:=h.form;obtain⟨nm,ps,d,de,gx,gz,t,u,z,R⟩:=p;dsimp only at h hk ⊢;obtain⟨n,hn⟩:=gX ps.length;rw[hn]at h ⊢;have o:=fun W (hW:Ba w W)=>KE W nm (Z a n c) ps d de gx gz (h.f hW);obtain⟨B,hB⟩:=gX (pd (Ee nm) ps d de gx gz);rw[hB]at o;have hR:Fa ⟨nm,ps,d,de,gx,gz,t,u,z,R⟩=(B&&(Ra t 0 7&&(!Uc u&&(!Uc z&&Ra R 1 3)))):=by unfold Fa;rw[hB]
 rw[hR];unfold Dd;dsimp only;clear hR hB hn h;cases B
 ·have g:=za o;clear o;go_in;go_wp2_with(first|((go_at_call 153;refine cM (g.o _ eA) ?_;rintro e w1 ⟨rfl,b⟩;obtain⟨⟨j,k⟩,f⟩:=Jd w b)));go_ret;exact⟨rfl,eA⟩
 ·have g:=za o;clear o;rw[Bool.true_and];by_cases k1:0<=t
  ·by_cases k2:t<=7
   ·(have x:Ra t 0 7=true:=by simp[Ra];omega);rw[x,Bool.true_and];(have q1:decide (t<0)=false:=by simp;omega);(have q2:decide (7<t)=false:=by simp;omega);clear x;cases k3:Uc u
    ·cases k4:Uc z
     ·rw[Bool.not_false,Bool.true_and,Bool.true_and];by_cases s1:1<=R
      ·by_cases s2:R<=3
       ·(have y:Ra R 1 3=true:=by simp[Ra];omega);rw[y];clear y;go_in;go_wp2_with(first|((go_at_call 153;refine cM (g.o _ eA) ?_;rintro e w1 ⟨rfl,b⟩;obtain⟨⟨j,k⟩,f⟩:=Jd w b))|((go_at_call 152;(with_reducible refine(io _ u).mono ?_);rw[k3];rintro e w2 ⟨rfl,i⟩;obtain⟨⟨r,s⟩,m⟩:=Jd w i))|((go_at_call 152;(with_reducible refine(io _ z).mono ?_);rw[k4];rintro e w3 ⟨rfl,l⟩;obtain⟨⟨K,L⟩,q⟩:=Jd w l)));go_ret;exact⟨rfl,eA⟩
       ·(have y:Ra R 1 3=false:=by simp[Ra];omega);rw[y];clear y;go_in;go_wp2_with(first|((go_at_call 153;refine cM (g.o _ eA) ?_;rintro e w1 ⟨rfl,b⟩;obtain⟨⟨j,k⟩,f⟩:=Jd w b))|((go_at_call 152;(with_reducible refine(io _ u).mono ?_);rw[k3];rintro e w2 ⟨rfl,i⟩;obtain⟨⟨r,s⟩,m⟩:=Jd w i))|((go_at_call 152;(with_reducible refine(io _ z).mono ?_);rw[k4];rintro e w3 ⟨rfl,l⟩;obtain⟨⟨K,L⟩,q⟩:=Jd w l)));go_ret;exact⟨rfl,eA⟩
      ·(have y:Ra R 1 3=false:=by simp[Ra];omega);rw[y];clear y;go_in;go_wp2_with(first|((go_at_call 153;refine cM (g.o _ eA) ?_;rintro e w1 ⟨rfl,b⟩;obtain⟨⟨j,k⟩,f⟩:=Jd w b))|((go_at_call 152;(with_reducible refine(io _ u).mono ?_);rw[k3];rintro e w2 ⟨rfl,i⟩;obtain⟨⟨r,s⟩,m⟩:=Jd w i))|((go_at_call 152;(with_reducible refine(io _ z).mono ?_);rw[k4];rintro e w3 ⟨rfl,l⟩;obtain⟨⟨K,L⟩,q⟩:=Jd w l)));go_ret;exact⟨rfl,eA⟩
     ·go_in;go_wp2_with(first|((go_at_call 153;refine cM (g.o _ eA) ?_;rintro e w1 ⟨rfl,b⟩;obtain⟨⟨j,k⟩,f⟩:=Jd w b))|((go_at_call 152;(with_reducible refine(io _ u).mono ?_);rw[k3];rintro e w2 ⟨rfl,i⟩;obtain⟨⟨r,s⟩,m⟩:=Jd w i))|((go_at_call 152;(with_reducible refine(io _ z).mono ?_);rw[k4];rintro e w3 ⟨rfl,l⟩;obtain⟨⟨K,L⟩,q⟩:=Jd w l)));go_ret;exact⟨rfl,eA⟩
    ·go_in;go_wp2_with(first|((go_at_call 153;refine cM (g.o _ eA) ?_;rintro e w1 ⟨rfl,b⟩;obtain⟨⟨j,k⟩,f⟩:=Jd w b))|((go_at_call 152;(with_reducible refine(io _ u).mono ?_);rw[k3];rintro e w2 ⟨rfl,i⟩;obtain⟨⟨r,s⟩,m⟩:=Jd w i)));go_ret;exact⟨rfl,eA⟩
   ·(have x:Ra t 0 7=false:=by simp[Ra];omega);rw[x,Bool.false_and];clear x;go_in;go_wp2_with(first|((go_at_call 153;refine cM (g.o _ eA) ?_;rintro e w1 ⟨rfl,b⟩;obtain⟨⟨j,k⟩,f⟩:=Jd w b)));go_ret;exact⟨rfl,eA⟩
  ·have x:Ra t 0 7=false:=by simp[Ra];omega
   rw[x,Bool.false_and];clear x;go_in;go_wp2_with(first|((go_at_call 153;refine cM (g.o _ eA) ?_;rintro e w1 ⟨rfl,b⟩;obtain⟨⟨j,k⟩,f⟩:=Jd w b)));go_ret;exact⟨rfl,eA⟩
end
section
open Go.RowKit Go.Shelf Go.Sort
def Bi{α:Type}(B:α->Prop)[DecidablePred B](cf:α->α->Int)(d:{x // B x})(xs:List α):List α:=
 if h:∀x∈xs,B x then
  (@pdq {x // B x} ⟨d⟩ (ltOf fun x y:{x // B x}=>cf x.1 y.1) (xs.attachWith B h).toArray 0 xs.length (Lib.bitLen xs.length) true true).toList.map (·.1)
 else xs
def Nt{α:Type}{B}{xs:List α}(h:∀x∈xs,B x):(xs.attachWith B h).map (·.1)=xs:=sM
def BP(p:Int×Int):Prop:=Bd 1000000 p.1/\Bd 1000000 p.2
instance:DecidablePred BP:=fun p=>by unfold BP Bd;exact inferInstance
def SA:{x // BP x}:=⟨(0,0),by decide⟩
def nn(p q:Int×Int):Int:=p.1-q.1
def Df(ps:LP):LP:=Bi BP nn SA ps
instance:Inhabited {x // BP x}:=⟨SA⟩
def Aw x y:ltOf (fun x y:{x // BP x}=>nn x.1 y.1) x y=decide (x.1.1<y.1.1):=by unfold ltOf nn;rw[decide_eq_decide];dsimp only;omega
def vo:@SWO {x // BP x} (ltOf fun x y:{x // BP x}=>nn x.1 y.1) where
 irrefl x:=by rw[Aw];simp
 trans x y z h1 h2:=by rw[Aw]at *;simp only[decide_eq_true_eq]at *;omega
 ntrans x y z h1 h2:=by rw[Aw]at *;simp only[decide_eq_false_iff_not]at *;omega
def RM(x y:{x // BP x}) W:Calls Tryz.prog 154 #[.agg #[O Y x.1.1,O Y x.1.2],.agg #[O Y y.1.1,O Y y.1.2]] W fun e i=>e=.returned (O Y (nn x.1 y.1))/\∃q os',i=grow (W.drewN q) os':=by obtain⟨⟨j,k⟩,⟨c,d⟩,a⟩:=x;obtain⟨⟨l,m⟩,⟨f,g⟩,b⟩:=y;unfold nn;dsimp only at *;clear a b;go_in;go_wp2;go_ret;exact⟨rfl,0,_,by rw[alloc_eq_grow,alloc_eq_grow,grow_grow];rfl⟩
def Ym blk a size w:CmpLays Tryz.prog 154 #[] (fun x:{x // BP x}=>pc x.1) 2 (fun x y=>nn x.1 y.1) blk a size w:=
 fun _ _ _ _ x y=>RM x y _
def pD{β}[Inhabited β]{lt}(hO:SWO lt)(d:Array β) l:(pdq lt d 0 d.size l true true).size=d.size/\(pdq lt d 0 d.size l true true).toList.Perm d.toList:=by
 obtain⟨a,_,b⟩:=(pdq_sorts lt hO d 0 d.size l true true (Nat.zero_le _) (nE _) (Or.inl rfl)).1;refine⟨a,?_⟩;generalize pdq lt d 0 d.size l true true=d' at a b ⊢;have c:d'.extract 0 d.size=d':=by rw[<-a];exact Array.extract_size
 rw[c,Array.extract_size]at b;exact b
def QS{α B}[DecidablePred B]{cf d}{xs:List α}(hO:@SWO {x // B x} (ltOf fun x y:{x // B x}=>cf x.1 y.1)):(Bi B cf d xs).Perm xs:=by
 unfold Bi;split
 ·rename_i h;have b:=(@pD {x // B x} ⟨d⟩ _ hO (xs.attachWith B h).toArray (Lib.bitLen xs.length)).2;have a:=b.map (·.1);rw[show (xs.attachWith B h).toArray.size=xs.length by simp]at a;have e:(xs.attachWith B h).toArray.toList.map (·.1)=xs:=Nt h;rw[e]at a;exact a
 ·exact List.Perm.refl _
def oq ps:(Df ps).Perm ps:=QS vo
def yG w base g n c ps(h:Ea 91 2 w base (Z (X ⟨g,0,J⟩) n c) (ps.map pc))(z:qg 1000000 ps)(K:ps.length<=1000000):Calls Tryz.prog 155 #[Z (X ⟨g,0,J⟩) n c,.func (.func 154) #[] #[]] w fun e f=>e=.returned (.tuple #[])/\Ea 91 2 f base (Z (X ⟨g,0,J⟩) n c) ((Df ps).map pc)/\w.grownBy f (X g):=by
 have p:=h.len;rw[lL]at p;obtain⟨d,o⟩:=gX ((ps.attachWith BP z).toArray);have a:d.size=n:=by rw[<-o,p,List.size_toArray];exact List.length_attachWith
 have j:d.toList.map (fun x=>pc x.1)=ps.map pc:=by
  rw[<-o,show (fun x:{x // BP x}=>pc x.1)=pc ∘ (·.1)from rfl,<-List.map_map]
  congr 1
  exact Nt z
 have W:Df ps=(pdq (ltOf fun x y:{x // BP x}=>nn x.1 y.1) d 0 d.size (Lib.bitLen d.size) true true).toList.map (·.1):=by
  unfold Df Bi;rw[dif_pos (show ∀x∈ps,BP x from z),a,o,p]
 have hg:=(h.lt g rfl).2;have R:∀args w,(callFunc 154 args).run Tryz.prog w = .ok (.enter 154 args) w:=enters_of Tryz.func154 kM rfl;have s:Ea 91 2 w base (Z (X ⟨g,0,J⟩) n c) (d.toList.map fun x=>pc x.1):=by rw[j];exact h
 have t:=CF (enc:=fun x:{x // BP x}=>pc x.1) (fun _=>rfl) s;have b:Lib.bitLen d.size<4611686018427387904:=Nat.lt_of_le_of_lt (Lib.bitLen_le d.size 62 oM oM) oM;have l:Calls Tryz.prog 198 #[Z (X ⟨g,0,J⟩) d.size c,O Y 0,O Y d.size,O Y (Lib.bitLen d.size),.func (.func 154) #[] #[]] w fun e f=>e=.returned (.tuple #[])/\SWK (fun x:{x // BP x}=>pc x.1) 2 w g 0 (pdq (ltOf fun x y:{x // BP x}=>nn x.1 y.1) d 0 d.size (Lib.bitLen d.size) true true) f:=AnyQ.pdqsortCmpFunc_all (P:=Tryz.prog) (ρ:=Tryz.pdqPoint_ren) Tryz.pdqPoint 2 Tryz.isAgg91 Tryz.sizeOf91 (fun x:{x // BP x}=>pc x.1) (fun x y=>nn x.1 y.1) 154 #[] vo g 0 c d w R (Ym g 0 d.size w) ⟨fun _=>rfl,fun x v hv=>by simp[pc]at hv;rcases hv with rfl|rfl<;>rfl,t,hg⟩ (d.size+1) 0 d.size (Lib.bitLen d.size) d w oM rfl (SWK.start t) (Nat.zero_le _) (nE _) oM b (Or.inl rfl);have k:Calls Tryz.prog 90 #[O .u64 (d.size:Int)] w fun e f=>e=.returned (O Y (Lib.bitLen d.size:Nat))/\f=w:=by
  have h:=Tryz.bits_Len (d.size:Int) w oM oM
  rwa [Int.toNat_natCast]at h
 have wr:IntKind.u64.wrap (d.size:Int)=d.size:=by simp[IntKind.wrap,IntKind.bits,IntKind.signed];omega
 have HX:=za W;have H':=za s;rw[a]at wr;have i:=za a;have aa:n<=1000000:=oM;rw[a]at l k;have r:=za l;have q:=za k;obtain⟨L,u⟩:=gX (Lib.bitLen n);rw[u]at l k;have Hp:=za l;have Hl:=za k;have HL:=za u;clear l k W s o a u b R j t h p K r q;go_in;go_wp2_with(first|((go_at_call 90;(with_reducible refine Hl.o.mono ?_);rintro e f ⟨rfl,rfl⟩))|((go_at_call 198;(with_reducible refine Hp.o.mono ?_);rintro e f ⟨rfl,m,os,rfl⟩)))
 go_end0
 refine⟨rfl,?_,XD _⟩;have:=ZF (m:=m) (os:=os) (enc:=fun x:{x // BP x}=>pc x.1) (fun _=>rfl) (d':=pdq (ltOf fun x y:{x // BP x}=>nn x.1 y.1) d 0 n L true true) H'.o ?_
 ·rw[HX.o,i.o,HL.o,List.map_map];exact this
 ·have:=(pD vo d L).1;rw[i.o]at this ⊢;exact this
