import Derived.Test.YtjnjpagegkcgfaaGreatDoorCobA07
import Derived.Test.YtjnjpagegkcgfaaGreatDoorCobA01
set_option maxRecDepth 1000000
set_option maxHeartbeats 16000000
set_option linter.all false
open Go.Value renaming int->O,slice->X
open Go.IntKind renaming i64->Y
open Option renaming some->Z,none->V
open Go renaming World->J,Value->M
namespace Go.Proofs.YtjnjpagegkcgfaaGreatDoor.Cop
section
open Go.RowKit Go.Shelf
def Fg(ps:LP):Nat:=(Pe (fun p=>pf ps==p) ps).toNat
def Sc(ps:LP):LP:=(ps.drop (Fg ps)++ps.take (Fg ps)).map fun p=>(p.1-(Va ps).1,p.2-(Va ps).2)
def xC{ps:LP}(h:ps≠[]):pf ps∈ps:=by
 cases ps with
 | nil=>exact absurd rfl h
 | cons p ps =>
  have:∀(b:LP)(a:Int×Int),b.foldl Uh a=a\/b.foldl Uh a∈b:=by
   intro b;induction b with
   | nil=>intro a;exact .inl rfl
   | cons q b c =>
    intro a;rw[List.foldl_cons];rcases c (Uh a q)with e|e
    ·rw[e];unfold Uh;split
     ·exact .inr sM
     ·exact .inl rfl
    ·exact .inr (mC _ e)
  rcases this ps p with e|e
  ·rw[show pf (p::ps)=ps.foldl Uh p from rfl,e];simp
  ·rw[show pf (p::ps)=ps.foldl Uh p from rfl];exact mC _ e
def qt{ps:LP}(h:ps≠[]):Pe (fun p=>pf ps==p) ps=(Fg ps:Int)/\Fg ps<ps.length:=by
 obtain⟨i,c,b⟩:=List.mem_iff_getElem.1 (xC h);unfold Fg;unfold Pe;cases hf:ps.findIdx? (fun p=>pf ps==p)with
 |none=>
  rw[List.findIdx?_eq_none_iff]at hf;have:=hf _ (xC h);simp at this
 | some j =>
  rw[List.findIdx?_eq_some_iff_getElem]at hf;obtain⟨a,_⟩:=hf;exact⟨by simp,by simpa using a⟩
def PC{k:Int}{ps:LP}(h:xg k ps)(f:ps≠[]):Bd k (Va ps).1/\Bd k (Va ps).2:=by
 cases ps with
 | nil=>exact absurd rfl f
 | cons p ps =>
  have:∀(b:LP)(a:Int×Int),(Bd k a.1/\Bd k a.2)->xg k b->Bd k (b.foldl (fun o q=>(min o.1 q.1,min o.2 q.2)) a).1/\Bd k (b.foldl (fun o q=>(min o.1 q.1,min o.2 q.2)) a).2:=by
   intro b;induction b with
   | nil=>intro a d _;exact d
   | cons q b g =>
    intro a d e;refine g _ ?_ (fun z c=>e z (mC _ c));have:=e q sM;unfold Bd at *;dsimp only;omega
  exact this ps p (h p sM) (fun z c=>h z (mC _ c))
def xg.rot{k:Int}{ps:LP}(h:xg k ps)(m:Nat):xg k (ps.drop m++ps.take m):=fun p b=>by
 rcases List.mem_append.1 b with a|a
 ·exact h p (List.mem_of_mem_drop a)
 ·exact h p (List.mem_of_mem_take a)
def VP{T:TypeId}{W:J}{f g:M}{d e:LP}(j:Ja W f d)(k:Ja W g e):Sl T 1 (Ej T) (W.alloc (.cells #[f,g] T)) (X (Z ⟨W.heap.size,0,V⟩) 2 2) [d,e]:=by
 refine⟨[[f],[g]],rfl,by simp,⟨rfl,_,_,rfl,nE _,by unfold maxLen;omega,.inr ⟨W.heap.size,0,_,_,rfl,aN W _,?_⟩⟩,?_⟩
 ·intro i x a
  match i,a with
  | 0,a=>simpa using a
  | 1,a=>simpa using a
  | i+2,a=>simp at a
 ·intro i c x b a
  match i,b,a with
  | 0,b,a=>simp at b a;subst b a;exact⟨_,rfl,j.f ((eR _).alloc _)⟩
  | 1,b,a=>simp at b a;subst b a;exact⟨_,rfl,k.f ((eR _).alloc _)⟩
  | i+2,b,a=>simp at b
def rF(w:J)(base:Nat)(f:Int×Int->Int×Int)(qs:LP)(v5:M)(g:Nat)(a:M)(W:J):Prop:=
 ∃i:Nat,i<=qs.length/\a=O Y i/\g=qs.length-i/\Ba w W/\base<=W.heap.size/\Ka 43 2 W base v5 (((qs.take i).map f++qs.drop i).map pc)
def Kz{f:Int×Int->Int×Int}{qs:LP}{i:Nat}{q:Int×Int}(h:qs[i]?=Z q):(((qs.take i).map f++qs.drop i).map pc)[i]?=Z (pc q):=by have a:=(lS.1 h).1;rw[lP,List.getElem?_append_right (by simp;omega)];simp only[lL,List.length_take];rw[show i-min i qs.length=0 by omega,List.getElem?_drop,Nat.add_zero,h];rfl
def Jz{f:Int×Int->Int×Int}{qs:LP}{i:Nat}{q:Int×Int}(h:qs[i]?=Z q){x z:Int}(c:f q=(x,z))(d:List M)(b:d=[O Y x,O Y z]):(((qs.take i).map f++qs.drop i).map pc).set i d=(((qs.take (i+1)).map f++qs.drop (i+1)).map pc):=by
 have e:=(lS.1 h).1;subst b;have a:(qs.drop i)=q::qs.drop (i+1):=by
  rw[List.drop_eq_getElem_cons e];have:=(lS.1 h).2;rw[this]
 have g:((qs.take i).map f).map pc=((qs.take i).map f).map pc:=rfl;rw[Rf _ _ _ h,List.map_append,List.map_append,a,List.set_append_right _ _ (by simp;omega),List.map_cons];simp only[lL,List.length_take];rw[show i-min i qs.length=0 by omega,List.set_cons_zero];simp[c,pc]
def Ka.pair{T:TypeId}{w:J}{base g n c:Nat}{cs:List (List M)}{i:Nat}{p:Int×Int}(h:Ka T 2 w base (X (Z ⟨g,0,V⟩) n c) cs)(b:cs[i]?=Z (pc p))(u v:M):Ka T 2 ((w.setCell ⟨g,i*2,V⟩ u).setCell ⟨g,i*2+1,V⟩ v) base (X (Z ⟨g,0,V⟩) n c) (cs.set i [u,v]):=by have e:=Ka.stored (j:=0) h b dM u;have f:=(lS.1 b).1;have a:=Ka.stored (i:=i) (j:=1) (d:=[u,O Y p.2]) e (by rw[List.getElem?_set_self oM];rfl) dM v;rw[List.set_set]at a;exact a
def NE(w:J)(v:M)(ps:LP)(h:Ja w v ps)(h0:0<ps.length)(aV:ps.length<=1000000)(hb:xg 1000000 ps):Calls Tryz.prog 199 #[v] w (Yk 43 2 w ((Sc ps).map pc)):=by
 obtain⟨a,c,rfl⟩:=h.form;have ak:ps≠[]:=by intro e;subst e;simp at h0
 obtain⟨⟨a6,a7⟩,ay⟩:∃p,ps[0]?=Z p:=⟨ps[0],by simp⟩;obtain⟨b,o,rfl,aX,_,_⟩:=h.at' ay;have ai:=PC hb ak;have aa:=qt ak;have hQ:Sc ps=(ps.drop (Fg ps)++ps.take (Fg ps)).map fun p=>(p.1-(Va ps).1,p.2-(Va ps).2):=rfl;have ac:=hb.rot (Fg ps);rw[hQ];have aj:=h.le;have R:=fun W (hW:Ba w W)=>OC W _ ps (h.f hW) h0;have S:=fun W (hW:Ba w W)=>uA W _ ps (h.f hW) h0;obtain⟨⟨K,P⟩,hl⟩:∃p,Va ps=p:=⟨_,rfl⟩;obtain⟨⟨mx,mz⟩,hm⟩:∃p,pf ps=p:=⟨_,rfl⟩;have y:=fun W (hW:Ba w W)=>vM W _ ps mx mz (h.f hW);rw[<-hm,aa.1]at y;obtain⟨k,hk⟩:=gX (Fg ps);rw[hk]at y ac aa ⊢;rw[hl]at R ai ⊢;rw[hm]at S;obtain⟨Q,ad⟩:=gX (ps.drop k++ps.take k);rw[ad]at ac ⊢;obtain⟨n,hn⟩:=gX ps.length;have a0:k<n:=by have:=aa.2;omega
 have az:Q.length=n:=by rw[<-ad];simp;omega
 have an:Ja w _ _:=h.drop h0 (m:=k) oM;have aA:Ja w _ _:=h.take h0 (m:=k) (c':=k) oM (nE _) oM;rw[hn]at h R S y aj an ⊢;unfold maxLen at aj;have t:=fun W (hW:Ba w W)=>TN ((W.alloc (.cells #[X (Z ⟨b,o+k*2,V⟩) (n-k) (c-k),X (Z ⟨b,o,V⟩) k k] 38)).drew) (X (Z ⟨W.heap.size,0,V⟩) 2 2) [ps.drop k,ps.take k] (VP (T:=38) (an.f hW) (aA.f hW)) (by
  unfold Sj;simp;omega)
 have e2:[ps.drop k,ps.take k].flatten=Q:=by simpa using ad
 rw[e2]at t;obtain⟨RL,ag⟩:=gX ((Q.map (fun p=>(p.1-K,p.2-P))).map pc);rw[ag];have aD:=Aa ag;clear ag;have aG:=Aa R;have aH:=Aa S;have aF:=Aa y;have aE:=Aa t;have aI:=Aa ac;have ar:=Aa ai;have l:=Aa az;have k1:(0:Int)<=(k:Int):=oM;have k2:(k:Int)<=(n:Int):=oM;have k3:(n:Int)<=(c:Int):=oM;have k4:(k:Int)<(c:Int):=oM;have k5:k<c:=oM;have a1:c<=9223372036854775807:=oM;clear R S y t ac ai az aa hk hl hm ad hn an aA aj h hQ e2 hb ak ay h0 aV;go_in;go_wp2_with(first|((go_at_call 208;refine cM (aG.o _ eA) ?_;rintro e w1 ⟨rfl,ae⟩;obtain⟨aL,aQ⟩:=ae.cells))|((go_at_call 209;refine cM (aH.o _ eA) ?_;rintro e w2 ⟨rfl,u⟩;obtain⟨aM,aR⟩:=u.cells))|((go_at_call 238;refine cM (aF.o _ eA) ?_;rintro e w3 ⟨rfl,x⟩;obtain⟨aO,aS⟩:=x.cells)));have af:Ba w w3:=eA;have t:=aE.o w3 af;have aC:=Aa t;clear t;have zo:w1.heap.size<w3.heap.size:=Nat.lt_of_lt_of_le (by have:=u.size;simp at this;omega) x.size;have o2:w2.cell? ⟨w1.heap.size,0,V⟩=Z (O Y K):=u.d sM;have o3:w2.cell? ⟨w1.heap.size,1,V⟩=Z (O Y P):=u.d sM;have o4:=x.d o2;have o5:=x.d o3;have O4:=Aa o4;have O5:=Aa o5;clear o2 o3 o4 o5
 first|(go_region_with (((go_at_call 239;(with_reducible refine aC.o.mono ?_);rintro e w4 ⟨v4,rfl,z,aB⟩;obtain⟨a4,n4,c4,rfl⟩:=z.i))))|fail
 all_goals go_wp2
 have ax:=z.len;rw[lL,l.o]at ax;obtain rfl:n=n4:=ax.symm;obtain⟨g4,rfl,aw,aY⟩:=z.blk (by rw[lL,l.o];omega);have r:Ba w3 w4:=((eR w3).alloc _).drew.trans aB;have s:Ba w w4:=(((ae.alloc _).trans u).trans x).trans r;have p4:=r.d O4.o;have p5:=r.d O5.o;simp only[Cc,wZ]at aw;obtain⟨bo,ah⟩:=gX w1.heap.size;have a5:w.heap.size<=bo:=by rw[<-ah];exact ae.size
 rw[ah]at zo p4 p5 ⊢;have al:=z.mono (b':=w3.heap.size) sM;have ao:=r.size;obtain⟨B,hB⟩:=gX w3.heap.size;rw[hB]at zo al ao aw;have aK:w.heap.size<=B:=oM;clear ah hB z ae u x af aB r aL aQ aM aR aO aS;go_loopg [24] n (fun g aW W=>rF w B (fun p=>(p.1-K,p.2-P)) Q (X (Z ⟨g4,0,V⟩) n c4) g aW W/\W.cell? ⟨bo,0,V⟩=Z (O Y K)/\W.cell? ⟨bo,1,V⟩=Z (O Y P))
 case atStart=>exact⟨⟨0,by omega,rfl,by rw[l.o];rfl,s,ao,by simpa using al⟩,p4,p5⟩
 case round =>
  clear p4 p5 al s ao;obtain⟨⟨i,hi,rfl,rfl,hx,a3,d⟩,q0,q1⟩:=hrel;rw[l.o]at hi;by_cases aU:i<n
  ·obtain⟨⟨qx,qz⟩,hq⟩:∃q,Q[i]?=Z q:=⟨Q[i]'(by rw[l.o];omega),by simp[l.o,aU]⟩;have ab:=Kz (f:=fun p=>(p.1-K,p.2-P)) hq;have d0:=d.cell (j:=0) ab rfl;have d1:=d.cell (j:=1) ab rfl;simp only[Nat.add_zero]at d0;dsimp only at d0 d1;have f0:=d.frozen;have av:=aI.o (qx,qz) (lM hq);have aq:=Aa av;have ap:=fun(W:J)(h:Ka 43 2 W B (X (Z ⟨g4,0,V⟩) n c4) (((Q.take i).map (fun p=>(p.1-K,p.2-P))++Q.drop i).map pc))=>h.pair ab (O Y (qx-K)) (O Y (qz-P));rw[Jz (f:=fun p=>(p.1-K,p.2-P)) hq rfl _ rfl]at ap;have aJ:=Aa ap;have au:=Aa d;have zg:=(d.lt g4 rfl).2;have zb:bo<wr.heap.size:=World.block_lt_of_cell? wr _ q0;have p1:(0:Int)<=(i:Int):=oM;have p2:(i:Int)<(n:Int):=oM;have aZ:¬g4=bo:=oM;clear ap ab hq av d;go_wp2
   go_region_with (((go_at_call 240;(with_reducible refine(pw _ qx qz K P (aq.o.1.mono dM) (aq.o.2.mono dM) (ar.o.1.mono dM) (ar.o.2.mono dM)).mono ?_);rintro e w5 ⟨rfl,r⟩;obtain⟨aP,aT⟩:=r.cells;(try simp only[Mg,Lg,Cc]at aP aT))))
   all_goals go_wp2
   all_goals
    have s:Ba wr w5:=(eR wr).drew.trans r;have a2:=s.size;have am:=aJ.o w5 (au.o.ext s);have a8:=s.d q0;have a9:=s.d q1;go_roundg (n-(i+1))
    case measure=>have:=l.o;omega
    case rel=>exact⟨⟨i+1,by have:=l.o;omega,by go_num,by rw[l.o],((hx.trans s).set dO _).set dO _,by simp only[Bg];omega,am⟩,by go_simp,by go_simp⟩
  ·obtain rfl:i=n:=oM;have e:((Q.take i).map (fun p=>(p.1-K,p.2-P))++Q.drop i)=Q.map (fun p=>(p.1-K,p.2-P)):=by
    rw[lT (by rw[l.o];exact nE _),List.drop_of_length_le (by rw[l.o];exact nE _),List.append_nil]
   rw[e,aD.o]at d;go_wp2;go_ret;exact⟨_,rfl,d.mono aK,hx⟩
def Ie(s:ByteArray):Bool:=Ta s.size 1 16&&!decide (0<=Lib.idxFunc (fun r:Nat=>Mf r) true s)
def KG(w:J):PredAt Tryz.prog 203 #[] encR (fun r:Nat=>Mf r) w:=fun W r _=>by
 unfold FnGives;rw[show #[encR r]++(#[]:Array M)=#[O .i32 r]from rfl];exact(yI W r).mono fun e c ⟨a,b⟩=>⟨a,0,b⟩
def PN(w:J)(s:ByteArray):Calls Tryz.prog 204 #[.string s,.func (.func 203) #[] #[]] w fun e a=>e=.returned (.bool (decide (0<=Lib.idxFunc (fun r:Nat=>Mf r) true s)))/\Ba w a:=
 Tryz.strings_ContainsFunc 203 #[] (enters_of Tryz.func203 kM rfl) _ s w (KG w)
def SM(w:J)(s:ByteArray):Calls Tryz.prog 161 #[.string s] w fun e i=>e=.returned (.bool (Ie s))/\Ba w i:=by
 obtain⟨I,d⟩:=gX (decide (0<=Lib.idxFunc (fun r:Nat=>Mf r) true s));have a:=fun W=>PN W s;unfold Ie;rw[d]at a ⊢;have f:=Aa a;clear a d;by_cases h:Ta s.size 1 16=true
 ·rw[h];go_in;go_wp2_with(first|((go_at_call 160;(with_reducible refine(Th _ s.size 1 16).mono ?_);rw[h];rintro e j ⟨rfl,b⟩))|((go_at_call 204;refine cM (f.o _) ?_;rintro e k ⟨rfl,g⟩)));go_ret;exact⟨by simp,eA⟩
 ·have c:Ta s.size 1 16=false:=by simpa using h
  rw[c];go_in;go_wp2_with(first|((go_at_call 160;(with_reducible refine(Th _ s.size 1 16).mono ?_);rw[c];rintro e j ⟨rfl,b⟩)));go_ret;exact⟨by simp,eA⟩
def BD(w:J)(s:ByteArray)(v:M)(ps:LP)(d a b c:Int)(h:Ja w v ps):Calls Tryz.prog 91 #[.agg #[.string s,v,O Y d,O Y a,O Y b,O Y c]] w fun e f=>e=.returned (O Y (if Cd (Ie s) ps d a b c then 0 else 2))/\Ba w f:=
 FO w s v ps d a b c (Ie s) h (fun W=>SM W s)
def Fa(p:Pl):Bool:=Cd (Ie p.name) p.shape p.depth p.density p.gx p.gz&&(Ta p.way 0 7&&(!og p.ax&&(!og p.az&&Ta p.skin 1 3)))
def iu(w:J)(p:Pl)(v:M)(h:Ja w v p.shape)(hk:0<=p.skin):Calls Tryz.prog 28 #[.agg (Dd p v)] w fun e w'=>e=.returned (O Y (if Fa p then 0 else 2))/\Ba w w':=by
 obtain⟨a,c,rfl⟩:=h.form;obtain⟨nm,S,d,de,gx,gz,t,u,z,Q⟩:=p;dsimp only at h hk ⊢;obtain⟨n,hn⟩:=gX S.length;rw[hn]at h ⊢;have o:=fun W (hW:Ba w W)=>BD W nm (X a n c) S d de gx gz (h.f hW);obtain⟨B,hB⟩:=gX (Cd (Ie nm) S d de gx gz);rw[hB]at o;have hR:Fa ⟨nm,S,d,de,gx,gz,t,u,z,Q⟩=(B&&(Ta t 0 7&&(!og u&&(!og z&&Ta Q 1 3)))):=by unfold Fa;rw[hB]
 rw[hR];unfold Dd;dsimp only;clear hR hB hn h;cases B
 ·have g:=Aa o;clear o;go_in;go_wp2_with(first|((go_at_call 91;refine cM (g.o _ eA) ?_;rintro e R ⟨rfl,b⟩;obtain⟨⟨j,k⟩,f⟩:=Md w b)));go_ret;exact⟨rfl,eA⟩
 ·have g:=Aa o;clear o;rw[Bool.true_and];by_cases k1:0<=t
  ·by_cases k2:t<=7
   ·(have x:Ta t 0 7=true:=by simp[Ta];omega);rw[x,Bool.true_and];(have q1:decide (t<0)=false:=by simp;omega);(have q2:decide (7<t)=false:=by simp;omega);clear x;cases k3:og u
    ·cases k4:og z
     ·rw[Bool.not_false,Bool.true_and,Bool.true_and];by_cases s1:1<=Q
      ·by_cases s2:Q<=3
       ·(have y:Ta Q 1 3=true:=by simp[Ta];omega);rw[y];clear y;go_in;go_wp2_with(first|((go_at_call 91;refine cM (g.o _ eA) ?_;rintro e R ⟨rfl,b⟩;obtain⟨⟨j,k⟩,f⟩:=Md w b))|((go_at_call 92;(with_reducible refine(Tm _ u).mono ?_);rw[k3];rintro e T ⟨rfl,i⟩;obtain⟨⟨r,s⟩,m⟩:=Md w i))|((go_at_call 92;(with_reducible refine(Tm _ z).mono ?_);rw[k4];rintro e w3 ⟨rfl,l⟩;obtain⟨⟨K,P⟩,q⟩:=Md w l)));go_ret;exact⟨rfl,eA⟩
       ·(have y:Ta Q 1 3=false:=by simp[Ta];omega);rw[y];clear y;go_in;go_wp2_with(first|((go_at_call 91;refine cM (g.o _ eA) ?_;rintro e R ⟨rfl,b⟩;obtain⟨⟨j,k⟩,f⟩:=Md w b))|((go_at_call 92;(with_reducible refine(Tm _ u).mono ?_);rw[k3];rintro e T ⟨rfl,i⟩;obtain⟨⟨r,s⟩,m⟩:=Md w i))|((go_at_call 92;(with_reducible refine(Tm _ z).mono ?_);rw[k4];rintro e w3 ⟨rfl,l⟩;obtain⟨⟨K,P⟩,q⟩:=Md w l)));go_ret;exact⟨rfl,eA⟩
      ·(have y:Ta Q 1 3=false:=by simp[Ta];omega);rw[y];clear y;go_in;go_wp2_with(first|((go_at_call 91;refine cM (g.o _ eA) ?_;rintro e R ⟨rfl,b⟩;obtain⟨⟨j,k⟩,f⟩:=Md w b))|((go_at_call 92;(with_reducible refine(Tm _ u).mono ?_);rw[k3];rintro e T ⟨rfl,i⟩;obtain⟨⟨r,s⟩,m⟩:=Md w i))|((go_at_call 92;(with_reducible refine(Tm _ z).mono ?_);rw[k4];rintro e w3 ⟨rfl,l⟩;obtain⟨⟨K,P⟩,q⟩:=Md w l)));go_ret;exact⟨rfl,eA⟩
     ·go_in;go_wp2_with(first|((go_at_call 91;refine cM (g.o _ eA) ?_;rintro e R ⟨rfl,b⟩;obtain⟨⟨j,k⟩,f⟩:=Md w b))|((go_at_call 92;(with_reducible refine(Tm _ u).mono ?_);rw[k3];rintro e T ⟨rfl,i⟩;obtain⟨⟨r,s⟩,m⟩:=Md w i))|((go_at_call 92;(with_reducible refine(Tm _ z).mono ?_);rw[k4];rintro e w3 ⟨rfl,l⟩;obtain⟨⟨K,P⟩,q⟩:=Md w l)));go_ret;exact⟨rfl,eA⟩
    ·go_in;go_wp2_with(first|((go_at_call 91;refine cM (g.o _ eA) ?_;rintro e R ⟨rfl,b⟩;obtain⟨⟨j,k⟩,f⟩:=Md w b))|((go_at_call 92;(with_reducible refine(Tm _ u).mono ?_);rw[k3];rintro e T ⟨rfl,i⟩;obtain⟨⟨r,s⟩,m⟩:=Md w i)));go_ret;exact⟨rfl,eA⟩
   ·(have x:Ta t 0 7=false:=by simp[Ta];omega);rw[x,Bool.false_and];clear x;go_in;go_wp2_with(first|((go_at_call 91;refine cM (g.o _ eA) ?_;rintro e R ⟨rfl,b⟩;obtain⟨⟨j,k⟩,f⟩:=Md w b)));go_ret;exact⟨rfl,eA⟩
  ·have x:Ta t 0 7=false:=by simp[Ta];omega
   rw[x,Bool.false_and];clear x;go_in;go_wp2_with(first|((go_at_call 91;refine cM (g.o _ eA) ?_;rintro e R ⟨rfl,b⟩;obtain⟨⟨j,k⟩,f⟩:=Md w b)));go_ret;exact⟨rfl,eA⟩
end
section
open Go.RowKit Go.Shelf Go.Sort
def ni{α:Type}(B:α->Prop)[DecidablePred B](cf:α->α->Int)(d:{x // B x})(xs:List α):List α:=
 if h:∀x∈xs,B x then
  (@pdq {x // B x} ⟨d⟩ (ltOf fun x y:{x // B x}=>cf x.1 y.1) (xs.attachWith B h).toArray 0 xs.length (Lib.bitLen xs.length) true true).toList.map (·.1)
 else xs
def Iu{α:Type}{B:α->Prop}{xs:List α}(h:∀x∈xs,B x):(xs.attachWith B h).map (·.1)=xs:=sM
def BP(p:Int×Int):Prop:=Bd 1000000 p.1/\Bd 1000000 p.2
instance:DecidablePred BP:=fun p=>by unfold BP Bd;exact inferInstance
def vy:{x // BP x}:=⟨(0,0),by decide⟩
def om(p q:Int×Int):Int:=p.1-q.1
def Ye(ps:LP):LP:=ni BP om vy ps
instance:Inhabited {x // BP x}:=⟨vy⟩
def Lu(x y:{x // BP x}):ltOf (fun x y:{x // BP x}=>om x.1 y.1) x y=decide (x.1.1<y.1.1):=by unfold ltOf om;rw[decide_eq_decide];dsimp only;omega
def Ym:@SWO {x // BP x} (ltOf fun x y:{x // BP x}=>om x.1 y.1) where
 irrefl x:=by rw[Lu];simp
 trans x y z h1 h2:=by rw[Lu]at *;simp only[decide_eq_true_eq]at *;omega
 ntrans x y z h1 h2:=by rw[Lu]at *;simp only[decide_eq_false_iff_not]at *;omega
def UL(x y:{x // BP x})(W:J):Calls Tryz.prog 126 #[.agg #[O Y x.1.1,O Y x.1.2],.agg #[O Y y.1.1,O Y y.1.2]] W fun e i=>e=.returned (O Y (om x.1 y.1))/\∃q os',i=grow (W.drewN q) os':=by obtain⟨⟨j,k⟩,⟨c,d⟩,a⟩:=x;obtain⟨⟨l,m⟩,⟨f,g⟩,b⟩:=y;unfold om;dsimp only at *;clear a b;go_in;go_wp2;go_ret;exact⟨rfl,0,_,by rw[alloc_eq_grow,alloc_eq_grow,grow_grow];rfl⟩
def mm(blk off size:Nat)(w:J):CmpLays Tryz.prog 126 #[] (fun x:{x // BP x}=>pc x.1) 2 (fun x y=>om x.1 y.1) blk off size w:=
 fun _ _ _ _ x y=>UL x y _
def rC{β:Type}[Inhabited β]{lt:β->β->Bool}(hO:SWO lt)(d:Array β)(l:Nat):(pdq lt d 0 d.size l true true).size=d.size/\(pdq lt d 0 d.size l true true).toList.Perm d.toList:=by
 obtain⟨a,_,b⟩:=(pdq_sorts lt hO d 0 d.size l true true (Nat.zero_le _) (nE _) (Or.inl rfl)).1;refine⟨a,?_⟩;generalize pdq lt d 0 d.size l true true=d' at a b ⊢;have c:d'.extract 0 d.size=d':=by rw[<-a];exact Array.extract_size
 rw[c,Array.extract_size]at b;exact b
def UO{α:Type}{B:α->Prop}[DecidablePred B]{cf:α->α->Int}{d:{x // B x}}{xs:List α}(hO:@SWO {x // B x} (ltOf fun x y:{x // B x}=>cf x.1 y.1)):(ni B cf d xs).Perm xs:=by
 unfold ni;split
 ·rename_i h;have b:=(@rC {x // B x} ⟨d⟩ _ hO (xs.attachWith B h).toArray (Lib.bitLen xs.length)).2;have a:=b.map (·.1);rw[show (xs.attachWith B h).toArray.size=xs.length by simp]at a;have e:(xs.attachWith B h).toArray.toList.map (·.1)=xs:=Iu h;rw[e]at a;exact a
 ·exact List.Perm.refl _
def Qo(ps:LP):(Ye ps).Perm ps:=UO Ym
def JE(w:J)(base g n c:Nat)(ps:LP)(h:Ka 43 2 w base (X (Z ⟨g,0,V⟩) n c) (ps.map pc))(z:xg 1000000 ps)(K:ps.length<=1000000):Calls Tryz.prog 127 #[X (Z ⟨g,0,V⟩) n c,.func (.func 126) #[] #[]] w fun e f=>e=.returned (.tuple #[])/\Ka 43 2 f base (X (Z ⟨g,0,V⟩) n c) ((Ye ps).map pc)/\w.grownBy f (Z g):=by
 have p:=h.len;rw[lL]at p;obtain⟨d,o⟩:=gX ((ps.attachWith BP z).toArray);have a:d.size=n:=by rw[<-o,p,List.size_toArray];exact List.length_attachWith
 have j:d.toList.map (fun x=>pc x.1)=ps.map pc:=by
  rw[<-o,show (fun x:{x // BP x}=>pc x.1)=pc ∘ (·.1)from rfl,<-List.map_map]
  congr 1
  exact Iu z
 have R:Ye ps=(pdq (ltOf fun x y:{x // BP x}=>om x.1 y.1) d 0 d.size (Lib.bitLen d.size) true true).toList.map (·.1):=by
  unfold Ye ni;rw[dif_pos (show ∀x∈ps,BP x from z),a,o,p]
 have hg:=(h.lt g rfl).2;have Q:∀args w,(callFunc 126 args).run Tryz.prog w = .ok (.enter 126 args) w:=enters_of Tryz.func126 kM rfl;have s:Ka 43 2 w base (X (Z ⟨g,0,V⟩) n c) (d.toList.map fun x=>pc x.1):=by rw[j];exact h
 have t:=pO (enc:=fun x:{x // BP x}=>pc x.1) (fun _=>rfl) s;have b:Lib.bitLen d.size<4611686018427387904:=Nat.lt_of_le_of_lt (Lib.bitLen_le d.size 62 oM oM) oM;have l:Calls Tryz.prog 180 #[X (Z ⟨g,0,V⟩) d.size c,O Y 0,O Y d.size,O Y (Lib.bitLen d.size),.func (.func 126) #[] #[]] w fun e f=>e=.returned (.tuple #[])/\SWK (fun x:{x // BP x}=>pc x.1) 2 w g 0 (pdq (ltOf fun x y:{x // BP x}=>om x.1 y.1) d 0 d.size (Lib.bitLen d.size) true true) f:=AnyQ.pdqsortCmpFunc_all (P:=Tryz.prog) (ρ:=Tryz.pdqPoint_ren) Tryz.pdqPoint 2 Tryz.isAgg43 Tryz.sizeOf43 (fun x:{x // BP x}=>pc x.1) (fun x y=>om x.1 y.1) 126 #[] Ym g 0 c d w Q (mm g 0 d.size w) ⟨fun _=>rfl,fun x v hv=>by simp[pc]at hv;rcases hv with rfl|rfl<;>rfl,t,hg⟩ (d.size+1) 0 d.size (Lib.bitLen d.size) d w oM rfl (SWK.start t) (Nat.zero_le _) (nE _) oM b (Or.inl rfl);have k:Calls Tryz.prog 175 #[O .u64 (d.size:Int)] w fun e f=>e=.returned (O Y (Lib.bitLen d.size:Nat))/\f=w:=by
  have h:=Tryz.bits_Len (d.size:Int) w oM oM
  rwa [Int.toNat_natCast]at h
 have wr:IntKind.u64.wrap (d.size:Int)=d.size:=by simp[IntKind.wrap,IntKind.bits,IntKind.signed];omega
 have HX:=Aa R;have T:=Aa s;rw[a]at wr;have i:=Aa a;have S:n<=1000000:=oM;rw[a]at l k;have r:=Aa l;have q:=Aa k;obtain⟨L,u⟩:=gX (Lib.bitLen n);rw[u]at l k;have Hp:=Aa l;have Hl:=Aa k;have W:=Aa u;clear l k R s o a u b Q j t h p K r q;go_in;go_wp2_with(first|((go_at_call 175;(with_reducible refine Hl.o.mono ?_);rintro e f ⟨rfl,rfl⟩))|((go_at_call 180;(with_reducible refine Hp.o.mono ?_);rintro e f ⟨rfl,m,os,rfl⟩)))
 go_end0
 refine⟨rfl,?_,jK _⟩;have:=TO (m:=m) (os:=os) (enc:=fun x:{x // BP x}=>pc x.1) (fun _=>rfl) (d':=pdq (ltOf fun x y:{x // BP x}=>om x.1 y.1) d 0 n L true true) T.o ?_
 ·rw[HX.o,i.o,W.o,List.map_map];exact this
 ·have:=(rC Ym d L).1;rw[i.o]at this ⊢;exact this
