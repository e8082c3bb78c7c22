import Derived.Test.YtjnjpagegkcgfaaGreatDoorCoqA05
import Derived.Deep.CutBlock
import Derived.Deep.DeepCutAuto
import Derived.Test.YtjnjpagegkcgfaaGreatDoorCoqA01
set_option maxRecDepth 1000000
set_option maxHeartbeats 16000000
set_option linter.all false
open Go.Value renaming int->O,slice->Z
open Go.IntKind renaming i64->Y
open Option renaming some->X,none->J
open Go renaming World->V,Value->M
namespace Go.Proofs.YtjnjpagegkcgfaaGreatDoor.Cop
section
open Go.RowKit Go.Shelf
def Ld(a b:Int):Bool:=(!(a==0) || !(b==0))&&Ra a (-100) 100&&Ra b (-100) 100
def Dd(nb:Bool)(ps:LP)(d a b c:Int):Bool:=nb&&ue ps&&Ra d 1 2000&&Ra a 1 10000&&Ld b c
def uS(w:V)(s:ByteArray)(a:Option Addr)(n c:Nat)(d f b e:Int)(t4:M)(W:V):Prop:=
 t4 = .bool (Ld b e)/\Aa w W/\W.heap[w.heap.size]?=X (.cells #[.string s,Z a n c,O Y d,O Y f,O Y b,O Y e] 45 (0,0))
def VO w s v ps d x g j nb(h:Fa w v ps)(aj:∀W,Calls Tryz.prog 161 #[.string s] W fun e w'=>e=.returned (.bool nb)/\Aa W w'):Calls Tryz.prog 91 #[.agg #[.string s,v,O Y d,O Y x,O Y g,O Y j]] w fun e w'=>e=.returned (O Y (if Dd nb ps d x g j then 0 else 2))/\Aa w w':=by
 obtain⟨a,c,rfl⟩:=h.form;obtain⟨n,hn⟩:=gX ps.length;rw[hn]at h ⊢;have K:=ka aj;have ag:=fun W (hW:Aa w W)=>pP W (Z a n c) ps (h.f hW);obtain⟨pb,af⟩:=gX (ue ps);rw[af]at ag;obtain⟨R,q⟩:∃R:Int,(if Dd nb ps d x g j then (0:Int)else 2)=R:=⟨_,rfl⟩;rw[q];unfold Dd at q;rw[af]at q;have aa:=ka ag;have z:=ka q;clear aj ag q af hn h;go_in;go_upto_region 2 with fail;go_cut [4] (uS w s a n c d x g j)
 case first =>
  by_cases hz:g=0/\j=0
  ·obtain⟨rfl,rfl⟩:=hz;go_wp2;go_meet;exact⟨rfl,eA,by rw[Dg,if_neg sM];exact Bc _ _ _ rfl⟩
  ·have ak:(g≠0)\/(g=0/\j≠0):=by
    by_cases e:g=0
    ·exact .inr ⟨e,fun e2=>hz ⟨e,e2⟩⟩
    ·exact .inl e
   clear hz;rcases ak with e1|⟨e1,e2⟩
   ·have f1:(g==0)=false:=(by simpa using e1);clear e1;(have hG:Ld g j=(Ra g (-100) 100&&Ra j (-100) 100):=by unfold Ld;simp[*]);have HG:=ka hG;clear hG;by_cases y:Ra g (-100) 100=true
    ·by_cases P:Ra j (-100) 100=true
     ·have l:Ta (Ld g j=true):=ka (by rw[HG.o,y,P];rfl);go_wp2_with(first|((go_at_call 160;(with_reducible refine(Vh _ g (-100) 100).mono ?_);rintro e w1 ⟨rfl,b⟩;obtain⟨m,o⟩:=b.cells;(try(refine Aa.t b (n:=w.heap.size) ?_ (fun _=>?_);focus(first|(go_simp;done)|omega)));(try(refine Aa.t b (n:=w.heap.size+1) ?_ (fun _=>?_);focus(first|(go_simp;done)|omega)))))|((go_at_call 160;(with_reducible refine(Vh _ j (-100) 100).mono ?_);rintro e w2 ⟨rfl,f⟩;obtain⟨r,t⟩:=f.cells;(try(refine Aa.t f (n:=w.heap.size) ?_ (fun _=>?_);focus(first|(go_simp;done)|omega)));(try(refine Aa.t f (n:=w.heap.size+1) ?_ (fun _=>?_);focus(first|(go_simp;done)|omega))))));go_meet;exact⟨by rw[l.o],eA,by rw[Aa.block (a:=(w.alloc (.cells #[.string s,Z a n c,O Y d,O Y x,O Y g,O Y j] 45))) eA sM];exact Bc _ _ _ rfl⟩
     ·(have ac:Ra j (-100) 100=false:=by simpa using P);have l:Ta (Ld g j=false):=ka (by rw[HG.o,y,ac];rfl);clear P;go_wp2_with(first|((go_at_call 160;(with_reducible refine(Vh _ g (-100) 100).mono ?_);rintro e w1 ⟨rfl,b⟩;obtain⟨m,o⟩:=b.cells;(try(refine Aa.t b (n:=w.heap.size) ?_ (fun _=>?_);focus(first|(go_simp;done)|omega)));(try(refine Aa.t b (n:=w.heap.size+1) ?_ (fun _=>?_);focus(first|(go_simp;done)|omega)))))|((go_at_call 160;(with_reducible refine(Vh _ j (-100) 100).mono ?_);rintro e w2 ⟨rfl,f⟩;obtain⟨r,t⟩:=f.cells;(try(refine Aa.t f (n:=w.heap.size) ?_ (fun _=>?_);focus(first|(go_simp;done)|omega)));(try(refine Aa.t f (n:=w.heap.size+1) ?_ (fun _=>?_);focus(first|(go_simp;done)|omega))))));go_meet;exact⟨by rw[l.o],eA,by rw[Aa.block (a:=(w.alloc (.cells #[.string s,Z a n c,O Y d,O Y x,O Y g,O Y j] 45))) eA sM];exact Bc _ _ _ rfl⟩
    ·(have ab:Ra g (-100) 100=false:=by simpa using y);have l:Ta (Ld g j=false):=ka (by rw[HG.o,ab];rfl);clear y;go_wp2_with(first|((go_at_call 160;(with_reducible refine(Vh _ g (-100) 100).mono ?_);rintro e w1 ⟨rfl,b⟩;obtain⟨m,o⟩:=b.cells;(try(refine Aa.t b (n:=w.heap.size) ?_ (fun _=>?_);focus(first|(go_simp;done)|omega)));(try(refine Aa.t b (n:=w.heap.size+1) ?_ (fun _=>?_);focus(first|(go_simp;done)|omega))))));go_meet;exact⟨by rw[l.o],eA,by rw[Aa.block (a:=(w.alloc (.cells #[.string s,Z a n c,O Y d,O Y x,O Y g,O Y j] 45))) eA sM];exact Bc _ _ _ rfl⟩
   ·have f1:(g==0)=true:=(by simpa using e1);have f2:(j==0)=false:=(by simpa using e2);clear e1 e2;(have hG:Ld g j=(Ra g (-100) 100&&Ra j (-100) 100):=by unfold Ld;simp[*]);have HG:=ka hG;clear hG;by_cases y:Ra g (-100) 100=true
    ·by_cases P:Ra j (-100) 100=true
     ·have l:Ta (Ld g j=true):=ka (by rw[HG.o,y,P];rfl);go_wp2_with(first|((go_at_call 160;(with_reducible refine(Vh _ g (-100) 100).mono ?_);rintro e w1 ⟨rfl,b⟩;obtain⟨m,o⟩:=b.cells;(try(refine Aa.t b (n:=w.heap.size) ?_ (fun _=>?_);focus(first|(go_simp;done)|omega)));(try(refine Aa.t b (n:=w.heap.size+1) ?_ (fun _=>?_);focus(first|(go_simp;done)|omega)))))|((go_at_call 160;(with_reducible refine(Vh _ j (-100) 100).mono ?_);rintro e w2 ⟨rfl,f⟩;obtain⟨r,t⟩:=f.cells;(try(refine Aa.t f (n:=w.heap.size) ?_ (fun _=>?_);focus(first|(go_simp;done)|omega)));(try(refine Aa.t f (n:=w.heap.size+1) ?_ (fun _=>?_);focus(first|(go_simp;done)|omega))))));go_meet;exact⟨by rw[l.o],eA,by rw[Aa.block (a:=(w.alloc (.cells #[.string s,Z a n c,O Y d,O Y x,O Y g,O Y j] 45))) eA sM];exact Bc _ _ _ rfl⟩
     ·(have ac:Ra j (-100) 100=false:=by simpa using P);have l:Ta (Ld g j=false):=ka (by rw[HG.o,y,ac];rfl);clear P;go_wp2_with(first|((go_at_call 160;(with_reducible refine(Vh _ g (-100) 100).mono ?_);rintro e w1 ⟨rfl,b⟩;obtain⟨m,o⟩:=b.cells;(try(refine Aa.t b (n:=w.heap.size) ?_ (fun _=>?_);focus(first|(go_simp;done)|omega)));(try(refine Aa.t b (n:=w.heap.size+1) ?_ (fun _=>?_);focus(first|(go_simp;done)|omega)))))|((go_at_call 160;(with_reducible refine(Vh _ j (-100) 100).mono ?_);rintro e w2 ⟨rfl,f⟩;obtain⟨r,t⟩:=f.cells;(try(refine Aa.t f (n:=w.heap.size) ?_ (fun _=>?_);focus(first|(go_simp;done)|omega)));(try(refine Aa.t f (n:=w.heap.size+1) ?_ (fun _=>?_);focus(first|(go_simp;done)|omega))))));go_meet;exact⟨by rw[l.o],eA,by rw[Aa.block (a:=(w.alloc (.cells #[.string s,Z a n c,O Y d,O Y x,O Y g,O Y j] 45))) eA sM];exact Bc _ _ _ rfl⟩
    ·(have ab:Ra g (-100) 100=false:=by simpa using y);have l:Ta (Ld g j=false):=ka (by rw[HG.o,ab];rfl);clear y;go_wp2_with(first|((go_at_call 160;(with_reducible refine(Vh _ g (-100) 100).mono ?_);rintro e w1 ⟨rfl,b⟩;obtain⟨m,o⟩:=b.cells;(try(refine Aa.t b (n:=w.heap.size) ?_ (fun _=>?_);focus(first|(go_simp;done)|omega)));(try(refine Aa.t b (n:=w.heap.size+1) ?_ (fun _=>?_);focus(first|(go_simp;done)|omega))))));go_meet;exact⟨by rw[l.o],eA,by rw[Aa.block (a:=(w.alloc (.cells #[.string s,Z a n c,O Y d,O Y x,O Y g,O Y j] 45))) eA sM];exact Bc _ _ _ rfl⟩
 case rest =>
  obtain⟨rfl,hx,hB⟩:=hcut;have b0:=Ba hB (i:=0) (u:=.string s) rfl;have b1:=Ba hB (i:=1) (u:=Z a n c) rfl;have b2:=Ba hB (i:=2) (u:=O Y d) rfl;have b3:=Ba hB (i:=3) (u:=O Y x) rfl;have zb:=Jb hB;clear hB;have q:=z.o;obtain⟨G,hG⟩:=gX (Ld g j);rw[hG]at q ⊢;clear hG z;cases nb
  ·have z:Ta (R=2):=ka (by simpa using q.symm);clear q;go_wp2_with(first|((go_at_call 161;refine cM (K.o _) ?_;rintro e w1 ⟨rfl,b⟩;obtain⟨m,o⟩:=b.cells;(have y1:=b.lt zb))));go_ret;exact⟨by rw[z.o];rfl,eA⟩
  cases pb
  ·have z:Ta (R=2):=ka (by simpa using q.symm);clear q;go_wp2_with(first|((go_at_call 161;refine cM (K.o _) ?_;rintro e w1 ⟨rfl,b⟩;obtain⟨m,o⟩:=b.cells;(have y1:=b.lt zb)))|((go_at_call 162;refine cM (aa.o _ eA) ?_;rintro e w2 ⟨rfl,f⟩;obtain⟨r,t⟩:=f.cells;(have y2:=f.lt y1))));go_ret;exact⟨by rw[z.o];rfl,eA⟩
  by_cases y:Ra d 1 2000=true
  ·by_cases P:Ra x 1 10000=true
   ·cases G
    ·have z:Ta (R=2):=ka (by simpa[y,P] using q.symm);clear q;go_wp2_with(first|((go_at_call 161;refine cM (K.o _) ?_;rintro e w1 ⟨rfl,b⟩;obtain⟨m,o⟩:=b.cells;(have y1:=b.lt zb)))|((go_at_call 162;refine cM (aa.o _ eA) ?_;rintro e w2 ⟨rfl,f⟩;obtain⟨r,t⟩:=f.cells;(have y2:=f.lt y1)))|((go_at_call 160;(with_reducible refine(Vh _ d 1 2000).mono ?_);rintro e w3 ⟨rfl,k⟩;obtain⟨ad,ae⟩:=k.cells;(try(refine Aa.t k (n:=w.heap.size) ?_ (fun _=>?_);focus(first|(go_simp;done)|omega)));(try(refine Aa.t k (n:=w.heap.size+1) ?_ (fun _=>?_);focus(first|(go_simp;done)|omega)))))|((go_at_call 160;(with_reducible refine(Vh _ x 1 10000).mono ?_);rintro e w4 ⟨rfl,p⟩;obtain⟨ah,ai⟩:=p.cells;(try(refine Aa.t p (n:=w.heap.size) ?_ (fun _=>?_);focus(first|(go_simp;done)|omega)));(try(refine Aa.t p (n:=w.heap.size+1) ?_ (fun _=>?_);focus(first|(go_simp;done)|omega))))));go_ret;exact⟨by rw[z.o];rfl,eA⟩
    ·have z:Ta (R=0):=ka (by simpa[y,P] using q.symm);clear q;go_wp2_with(first|((go_at_call 161;refine cM (K.o _) ?_;rintro e w1 ⟨rfl,b⟩;obtain⟨m,o⟩:=b.cells;(have y1:=b.lt zb)))|((go_at_call 162;refine cM (aa.o _ eA) ?_;rintro e w2 ⟨rfl,f⟩;obtain⟨r,t⟩:=f.cells;(have y2:=f.lt y1)))|((go_at_call 160;(with_reducible refine(Vh _ d 1 2000).mono ?_);rintro e w3 ⟨rfl,k⟩;obtain⟨ad,ae⟩:=k.cells;(try(refine Aa.t k (n:=w.heap.size) ?_ (fun _=>?_);focus(first|(go_simp;done)|omega)));(try(refine Aa.t k (n:=w.heap.size+1) ?_ (fun _=>?_);focus(first|(go_simp;done)|omega)))))|((go_at_call 160;(with_reducible refine(Vh _ x 1 10000).mono ?_);rintro e w4 ⟨rfl,p⟩;obtain⟨ah,ai⟩:=p.cells;(try(refine Aa.t p (n:=w.heap.size) ?_ (fun _=>?_);focus(first|(go_simp;done)|omega)));(try(refine Aa.t p (n:=w.heap.size+1) ?_ (fun _=>?_);focus(first|(go_simp;done)|omega))))));go_ret;exact⟨by rw[z.o];rfl,eA⟩
   ·(have ac:Ra x 1 10000=false:=by simpa using P);have z:Ta (R=2):=ka (by simpa[y,ac] using q.symm);clear q P;go_wp2_with(first|((go_at_call 161;refine cM (K.o _) ?_;rintro e w1 ⟨rfl,b⟩;obtain⟨m,o⟩:=b.cells;(have y1:=b.lt zb)))|((go_at_call 162;refine cM (aa.o _ eA) ?_;rintro e w2 ⟨rfl,f⟩;obtain⟨r,t⟩:=f.cells;(have y2:=f.lt y1)))|((go_at_call 160;(with_reducible refine(Vh _ d 1 2000).mono ?_);rintro e w3 ⟨rfl,k⟩;obtain⟨ad,ae⟩:=k.cells;(try(refine Aa.t k (n:=w.heap.size) ?_ (fun _=>?_);focus(first|(go_simp;done)|omega)));(try(refine Aa.t k (n:=w.heap.size+1) ?_ (fun _=>?_);focus(first|(go_simp;done)|omega)))))|((go_at_call 160;(with_reducible refine(Vh _ x 1 10000).mono ?_);rintro e w4 ⟨rfl,p⟩;obtain⟨ah,ai⟩:=p.cells;(try(refine Aa.t p (n:=w.heap.size) ?_ (fun _=>?_);focus(first|(go_simp;done)|omega)));(try(refine Aa.t p (n:=w.heap.size+1) ?_ (fun _=>?_);focus(first|(go_simp;done)|omega))))));go_ret;exact⟨by rw[z.o];rfl,eA⟩
  ·have ab:Ra d 1 2000=false:=by simpa using y
   have z:Ta (R=2):=ka (by simpa[ab] using q.symm);clear q y;go_wp2_with(first|((go_at_call 161;refine cM (K.o _) ?_;rintro e w1 ⟨rfl,b⟩;obtain⟨m,o⟩:=b.cells;(have y1:=b.lt zb)))|((go_at_call 162;refine cM (aa.o _ eA) ?_;rintro e w2 ⟨rfl,f⟩;obtain⟨r,t⟩:=f.cells;(have y2:=f.lt y1)))|((go_at_call 160;(with_reducible refine(Vh _ d 1 2000).mono ?_);rintro e w3 ⟨rfl,k⟩;obtain⟨ad,ae⟩:=k.cells;(try(refine Aa.t k (n:=w.heap.size) ?_ (fun _=>?_);focus(first|(go_simp;done)|omega)));(try(refine Aa.t k (n:=w.heap.size+1) ?_ (fun _=>?_);focus(first|(go_simp;done)|omega))))));go_ret;exact⟨by rw[z.o];rfl,eA⟩
def Cg(ps:LP):Nat:=(Le (fun p=>Af ps==p) ps).toNat
def Nc(ps:LP):LP:=(ps.drop (Cg ps)++ps.take (Cg ps)).map fun p=>(p.1-(Va ps).1,p.2-(Va ps).2)
def sC{ps:LP}(h:ps≠[]):Af ps∈ps:=by
 cases ps with
 | nil=>exact absurd rfl h
 | cons p ps =>
  have:∀(b:LP)(a:Int×Int),b.foldl Xh a=a\/b.foldl Xh a∈b:=by
   intro b;induction b with
   | nil=>intro a;exact .inl rfl
   | cons q b c =>
    intro a;rw[List.foldl_cons];rcases c (Xh a q)with e|e
    ·rw[e];unfold Xh;split
     ·exact .inr sM
     ·exact .inl rfl
    ·exact .inr (mC _ e)
  rcases this ps p with e|e
  ·rw[show Af (p::ps)=ps.foldl Xh p from rfl,e];simp
  ·rw[show Af (p::ps)=ps.foldl Xh p from rfl];exact mC _ e
def Mt{ps:LP}(h:ps≠[]):Le (fun p=>Af ps==p) ps=(Cg ps:Int)/\Cg ps<ps.length:=by
 obtain⟨i,c,b⟩:=List.mem_iff_getElem.1 (sC h);unfold Cg;unfold Le;cases hf:ps.findIdx? (fun p=>Af ps==p)with
 |none=>
  rw[List.findIdx?_eq_none_iff]at hf;have:=hf _ (sC h);simp at this
 | some j =>
  rw[List.findIdx?_eq_some_iff_getElem]at hf;obtain⟨a,_⟩:=hf;exact⟨by simp,by simpa using a⟩
def vD{k ps}(h:tg k ps)(f:ps≠[]):Bd k (Va ps).1/\Bd k (Va ps).2:=by
 cases ps with
 | nil=>exact absurd rfl f
 | cons p ps =>
  have:∀(b:LP)(a:Int×Int),(Bd k a.1/\Bd k a.2)->tg k b->Bd k (b.foldl (fun o q=>(min o.1 q.1,min o.2 q.2)) a).1/\Bd k (b.foldl (fun o q=>(min o.1 q.1,min o.2 q.2)) a).2:=by
   intro b;induction b with
   | nil=>intro a d _;exact d
   | cons q b g =>
    intro a d e;refine g _ ?_ (fun z c=>e z (mC _ c));have:=e q sM;unfold Bd at *;dsimp only;omega
  exact this ps p (h p sM) (fun z c=>h z (mC _ c))
def tg.rot{k ps}(h:tg k ps) m:tg k (ps.drop m++ps.take m):=fun p b=>by
 rcases List.mem_append.1 b with a|a
 ·exact h p (List.mem_of_mem_drop a)
 ·exact h p (List.mem_of_mem_take a)
def rQ{T W f g d e}(j:Fa W f d)(k:Fa W g e):Sl T 1 (gj T) (W.alloc (.cells #[f,g] T)) (Z (X ⟨W.heap.size,0,J⟩) 2 2) [d,e]:=by
 refine⟨[[f],[g]],rfl,by simp,⟨rfl,_,_,rfl,nE _,by unfold maxLen;omega,.inr ⟨W.heap.size,0,_,_,rfl,aN W _,?_⟩⟩,?_⟩
 ·intro i x a
  match i,a with
  | 0,a=>simpa using a
  | 1,a=>simpa using a
  | i+2,a=>simp at a
 ·intro i c x b a
  match i,b,a with
  | 0,b,a=>simp at b a;subst b a;exact⟨_,rfl,j.f ((eR _).alloc _)⟩
  | 1,b,a=>simp at b a;subst b a;exact⟨_,rfl,k.f ((eR _).alloc _)⟩
  | i+2,b,a=>simp at b
def RF(w:V)(base:Nat)(f:Int×Int->Int×Int)(a:LP)(v5:M)(g:Nat)(b:M)(W:V):Prop:=
 ∃i:Nat,i<=a.length/\b=O Y i/\g=a.length-i/\Aa w W/\base<=W.heap.size/\Ka 43 2 W base v5 (((a.take i).map f++a.drop i).map pc)
def Wz{f}{a:LP}{i q}(h:a[i]?=X q):(((a.take i).map f++a.drop i).map pc)[i]?=X (pc q):=by have b:=(lS.1 h).1;rw[lP,List.getElem?_append_right (by simp;omega)];simp only[lL,List.length_take];rw[show i-min i a.length=0 by omega,List.getElem?_drop,Nat.add_zero,h];rfl
def Vz{f}{a:LP}{i q}(h:a[i]?=X q){x z}(e:f q=(x,z)) d(c:d=[O Y x,O Y z]):(((a.take i).map f++a.drop i).map pc).set i d=(((a.take (i+1)).map f++a.drop (i+1)).map pc):=by
 have g:=(lS.1 h).1;subst c;have b:(a.drop i)=q::a.drop (i+1):=by
  rw[List.drop_eq_getElem_cons g];have:=(lS.1 h).2;rw[this]
 have j:((a.take i).map f).map pc=((a.take i).map f).map pc:=rfl;rw[Uf _ _ _ h,List.map_append,List.map_append,b,List.set_append_right _ _ (by simp;omega),List.map_cons];simp only[lL,List.length_take];rw[show i-min i a.length=0 by omega,List.set_cons_zero];simp[e,pc]
def Ka.pair{T w base g n c cs i p}(h:Ka T 2 w base (Z (X ⟨g,0,J⟩) n c) cs)(b:cs[i]?=X (pc p)) u v:Ka T 2 ((w.setCell ⟨g,i*2,J⟩ u).setCell ⟨g,i*2+1,J⟩ v) base (Z (X ⟨g,0,J⟩) n c) (cs.set i [u,v]):=by have e:=Ka.stored (j:=0) h b dM u;have f:=(lS.1 b).1;have a:=Ka.stored (i:=i) (j:=1) (d:=[u,O Y p.2]) e (by rw[List.getElem?_set_self oM];rfl) dM v;rw[List.set_set]at a;exact a
def jF w v ps(h:Fa w v ps)(h0:0<ps.length)(aX:ps.length<=1000000)(hb:tg 1000000 ps):Calls Tryz.prog 199 #[v] w (ol 43 2 w ((Nc ps).map pc)):=by
 obtain⟨a,c,rfl⟩:=h.form;have am:ps≠[]:=by intro e;subst e;simp at h0
 obtain⟨⟨a8,a9⟩,aA⟩:∃p,ps[0]?=X p:=⟨ps[0],by simp⟩;obtain⟨b,o,rfl,aZ,_,_⟩:=h.at' aA;have ak:=vD hb am;have ac:=Mt am;have hQ:Nc ps=(ps.drop (Cg ps)++ps.take (Cg ps)).map fun p=>(p.1-(Va ps).1,p.2-(Va ps).2):=rfl;have ae:=hb.rot (Cg ps);rw[hQ];have al:=h.le;have aa:=fun W (hW:Aa w W)=>uD W _ ps (h.f hW) h0;have ab:=fun W (hW:Aa w W)=>lN W _ ps (h.f hW) h0;obtain⟨⟨K,P⟩,hl⟩:∃p,Va ps=p:=⟨_,rfl⟩;obtain⟨⟨mx,mz⟩,hm⟩:∃p,Af ps=p:=⟨_,rfl⟩;have y:=fun W (hW:Aa w W)=>SA W _ ps mx mz (h.f hW);rw[<-hm,ac.1]at y;obtain⟨k,hk⟩:=gX (Cg ps);rw[hk]at y ae ac ⊢;rw[hl]at aa ak ⊢;rw[hm]at ab;obtain⟨R,af⟩:=gX (ps.drop k++ps.take k);rw[af]at ae ⊢;obtain⟨n,hn⟩:=gX ps.length;have a2:k<n:=by have:=ac.2;omega
 have aB:R.length=n:=by rw[<-af];simp;omega
 have ap:Fa w _ _:=h.drop h0 (m:=k) oM;have aC:Fa w _ _:=h.take h0 (m:=k) (c':=k) oM (nE _) oM;rw[hn]at h aa ab y al ap ⊢;unfold maxLen at al;have t:=fun W (hW:Aa w W)=>pO ((W.alloc (.cells #[Z (X ⟨b,o+k*2,J⟩) (n-k) (c-k),Z (X ⟨b,o,J⟩) k k] 38)).drew) (Z (X ⟨W.heap.size,0,J⟩) 2 2) [ps.drop k,ps.take k] (rQ (T:=38) (ap.f hW) (aC.f hW)) (by
  unfold Gj;simp;omega)
 have e2:[ps.drop k,ps.take k].flatten=R:=by simpa using af
 rw[e2]at t;obtain⟨RL,ai⟩:=gX ((R.map (fun p=>(p.1-K,p.2-P))).map pc);rw[ai];have aF:=ka ai;clear ai;have aI:=ka aa;have aJ:=ka ab;have aH:=ka y;have aG:=ka t;have aK:=ka ae;have av:=ka ak;have l:=ka aB;have k1:(0:Int)<=(k:Int):=oM;have k2:(k:Int)<=(n:Int):=oM;have k3:(n:Int)<=(c:Int):=oM;have k4:(k:Int)<(c:Int):=oM;have k5:k<c:=oM;have a3:c<=9223372036854775807:=oM;clear aa ab y t ae ak aB ac hk hl hm af hn ap aC al h hQ e2 hb am aA h0 aX;go_in;go_wp2_with(first|((go_at_call 208;refine cM (aI.o _ eA) ?_;rintro e w1 ⟨rfl,ag⟩;obtain⟨aO,aS⟩:=ag.cells))|((go_at_call 209;refine cM (aJ.o _ eA) ?_;rintro e w2 ⟨rfl,u⟩;obtain⟨aP,aT⟩:=u.cells))|((go_at_call 238;refine cM (aH.o _ eA) ?_;rintro e w3 ⟨rfl,x⟩;obtain⟨aQ,aU⟩:=x.cells)));have ah:Aa w w3:=eA;have t:=aG.o w3 ah;have aE:=ka t;clear t;have zo:w1.heap.size<w3.heap.size:=Nat.lt_of_lt_of_le (by have:=u.size;simp at this;omega) x.size;have o2:w2.cell? ⟨w1.heap.size,0,J⟩=X (O Y K):=u.d sM;have o3:w2.cell? ⟨w1.heap.size,1,J⟩=X (O Y P):=u.d sM;have o4:=x.d o2;have o5:=x.d o3;have O4:=ka o4;have O5:=ka o5;clear o2 o3 o4 o5
 first|(go_region_with (((go_at_call 239;(with_reducible refine aE.o.mono ?_);rintro e w4 ⟨v4,rfl,z,aD⟩;obtain⟨a4,n4,c4,rfl⟩:=z.i))))|fail
 all_goals go_wp2
 have az:=z.len;rw[lL,l.o]at az;obtain rfl:n=n4:=az.symm;obtain⟨g4,rfl,ay,a0⟩:=z.blk (by rw[lL,l.o];omega);have r:Aa w3 w4:=((eR w3).alloc _).drew.trans aD;have s:Aa w w4:=(((ag.alloc _).trans u).trans x).trans r;have p4:=r.d O4.o;have p5:=r.d O5.o;simp only[jc,wZ]at ay;obtain⟨bo,aj⟩:=gX w1.heap.size;have a7:w.heap.size<=bo:=by rw[<-aj];exact ag.size
 rw[aj]at zo p4 p5 ⊢;have an:=z.mono (b':=w3.heap.size) sM;have aq:=r.size;obtain⟨B,hB⟩:=gX w3.heap.size;rw[hB]at zo an aq ay;have aM:w.heap.size<=B:=oM;clear aj hB z ag u x ah aD r aO aS aP aT aQ aU;go_loopg [24] n (fun g aY W=>RF w B (fun p=>(p.1-K,p.2-P)) R (Z (X ⟨g4,0,J⟩) n c4) g aY W/\W.cell? ⟨bo,0,J⟩=X (O Y K)/\W.cell? ⟨bo,1,J⟩=X (O Y P))
 case atStart=>exact⟨⟨0,by omega,rfl,by rw[l.o];rfl,s,aq,by simpa using an⟩,p4,p5⟩
 case round =>
  clear p4 p5 an s aq;obtain⟨⟨i,hi,rfl,rfl,hx,a6,d⟩,q0,q1⟩:=hrel;rw[l.o]at hi;by_cases aW:i<n
  ·obtain⟨⟨qx,qz⟩,hq⟩:∃q,R[i]?=X q:=⟨R[i]'(by rw[l.o];omega),by simp[l.o,aW]⟩;have ad:=Wz (f:=fun p=>(p.1-K,p.2-P)) hq;have d0:=d.cell (j:=0) ad rfl;have d1:=d.cell (j:=1) ad rfl;simp only[Nat.add_zero]at d0;dsimp only at d0 d1;have f0:=d.frozen;have ax:=aK.o (qx,qz) (lM hq);have au:=ka ax;have ar:=fun(W:V)(h:Ka 43 2 W B (Z (X ⟨g4,0,J⟩) n c4) (((R.take i).map (fun p=>(p.1-K,p.2-P))++R.drop i).map pc))=>h.pair ad (O Y (qx-K)) (O Y (qz-P));rw[Vz (f:=fun p=>(p.1-K,p.2-P)) hq rfl _ rfl]at ar;have aL:=ka ar;have aw:=ka d;have zg:=(d.lt g4 rfl).2;have zb:bo<wr.heap.size:=World.block_lt_of_cell? wr _ q0;have p1:(0:Int)<=(i:Int):=oM;have p2:(i:Int)<(n:Int):=oM;have a1:¬g4=bo:=oM;clear ar ad hq ax d;go_wp2
   go_region_with (((go_at_call 240;(with_reducible refine(Rt _ qx qz K P (au.o.1.mono dM) (au.o.2.mono dM) (av.o.1.mono dM) (av.o.2.mono dM)).mono ?_);rintro e w5 ⟨rfl,r⟩;obtain⟨aR,aV⟩:=r.cells;(try simp only[Jg,Ig,jc]at aR aV))))
   all_goals go_wp2
   all_goals
    have s:Aa wr w5:=(eR wr).drew.trans r;have a5:=s.size;have ao:=aL.o w5 (aw.o.ext s);have ba:=s.d q0;have bb:=s.d q1;go_roundg (n-(i+1))
    case measure=>have:=l.o;omega
    case rel=>exact⟨⟨i+1,by have:=l.o;omega,by go_num,by rw[l.o],((hx.trans s).set dO _).set dO _,by simp only[yg];omega,ao⟩,by go_simp,by go_simp⟩
  ·obtain rfl:i=n:=oM;have e:((R.take i).map (fun p=>(p.1-K,p.2-P))++R.drop i)=R.map (fun p=>(p.1-K,p.2-P)):=by
    rw[lT (by rw[l.o];exact nE _),List.drop_of_length_le (by rw[l.o];exact nE _),List.append_nil]
   rw[e,aF.o]at d;go_wp2;go_ret;exact⟨_,rfl,d.mono aM,hx⟩
def Ge(s:ByteArray):Bool:=Ra s.size 1 16&&!decide (0<=Lib.idxFunc (fun r:Nat=>Ve r) true s)
def kH w:PredAt Tryz.prog 203 #[] encR (fun r:Nat=>Ve r) w:=fun W r _=>by
 unfold FnGives;rw[show #[encR r]++(#[]:Array M)=#[O .i32 r]from rfl];exact(KH W r).mono fun e c ⟨a,b⟩=>⟨a,0,b⟩
def lO w s:Calls Tryz.prog 204 #[.string s,.func (.func 203) #[] #[]] w fun e a=>e=.returned (.bool (decide (0<=Lib.idxFunc (fun r:Nat=>Ve r) true s)))/\Aa w a:=
 Tryz.strings_ContainsFunc 203 #[] (enters_of Tryz.func203 kM rfl) _ s w (kH w)
def YA w s:Calls Tryz.prog 161 #[.string s] w fun e i=>e=.returned (.bool (Ge s))/\Aa w i:=by
 obtain⟨I,d⟩:=gX (decide (0<=Lib.idxFunc (fun r:Nat=>Ve r) true s));have a:=fun W=>lO W s;unfold Ge;rw[d]at a ⊢;have f:=ka a;clear a d;by_cases h:Ra s.size 1 16=true
 ·rw[h];go_in;go_wp2_with(first|((go_at_call 160;(with_reducible refine(Vh _ s.size 1 16).mono ?_);rw[h];rintro e j ⟨rfl,b⟩))|((go_at_call 204;refine cM (f.o _) ?_;rintro e k ⟨rfl,g⟩)));go_ret;exact⟨by simp,eA⟩
 ·have c:Ra s.size 1 16=false:=by simpa using h
  rw[c];go_in;go_wp2_with(first|((go_at_call 160;(with_reducible refine(Vh _ s.size 1 16).mono ?_);rw[c];rintro e j ⟨rfl,b⟩)));go_ret;exact⟨by simp,eA⟩
def mE w s v ps d a b c(h:Fa w v ps):Calls Tryz.prog 91 #[.agg #[.string s,v,O Y d,O Y a,O Y b,O Y c]] w fun e f=>e=.returned (O Y (if Dd (Ge s) ps d a b c then 0 else 2))/\Aa w f:=
 VO w s v ps d a b c (Ge s) h (fun W=>YA W s)
def Ca(p:Pl):Bool:=Dd (Ge p.name) p.shape p.depth p.density p.gx p.gz&&(Ra p.way 0 7&&(!Kd p.ax&&(!Kd p.az&&Ra p.skin 1 3)))
def Tu w p v(h:Fa w v p.shape)(hk:0<=p.skin):Calls Tryz.prog 28 #[.agg (nc p v)] w fun e w'=>e=.returned (O Y (if Ca p then 0 else 2))/\Aa w w':=by
 obtain⟨a,c,rfl⟩:=h.form;obtain⟨nm,ps,d,de,gx,gz,t,u,z,R⟩:=p;dsimp only at h hk ⊢;obtain⟨n,hn⟩:=gX ps.length;rw[hn]at h ⊢;have o:=fun W (hW:Aa w W)=>mE W nm (Z a n c) ps d de gx gz (h.f hW);obtain⟨B,hB⟩:=gX (Dd (Ge nm) ps d de gx gz);rw[hB]at o;have hR:Ca ⟨nm,ps,d,de,gx,gz,t,u,z,R⟩=(B&&(Ra t 0 7&&(!Kd u&&(!Kd z&&Ra R 1 3)))):=by unfold Ca;rw[hB]
 rw[hR];unfold nc;dsimp only;clear hR hB hn h;cases B
 ·have g:=ka o;clear o;go_in;go_wp2_with(first|((go_at_call 91;refine cM (g.o _ eA) ?_;rintro e w1 ⟨rfl,b⟩;obtain⟨⟨j,k⟩,f⟩:=oe w b)));go_ret;exact⟨rfl,eA⟩
 ·have g:=ka o;clear o;rw[Bool.true_and];by_cases k1:0<=t
  ·by_cases k2:t<=7
   ·(have x:Ra t 0 7=true:=by simp[Ra];omega);rw[x,Bool.true_and];(have q1:decide (t<0)=false:=by simp;omega);(have q2:decide (7<t)=false:=by simp;omega);clear x;cases k3:Kd u
    ·cases k4:Kd z
     ·rw[Bool.not_false,Bool.true_and,Bool.true_and];by_cases s1:1<=R
      ·by_cases s2:R<=3
       ·(have y:Ra R 1 3=true:=by simp[Ra];omega);rw[y];clear y;go_in;go_wp2_with(first|((go_at_call 91;refine cM (g.o _ eA) ?_;rintro e w1 ⟨rfl,b⟩;obtain⟨⟨j,k⟩,f⟩:=oe w b))|((go_at_call 92;(with_reducible refine(jn _ u).mono ?_);rw[k3];rintro e w2 ⟨rfl,i⟩;obtain⟨⟨r,s⟩,m⟩:=oe w i))|((go_at_call 92;(with_reducible refine(jn _ z).mono ?_);rw[k4];rintro e w3 ⟨rfl,l⟩;obtain⟨⟨K,P⟩,q⟩:=oe w l)));go_ret;exact⟨rfl,eA⟩
       ·(have y:Ra R 1 3=false:=by simp[Ra];omega);rw[y];clear y;go_in;go_wp2_with(first|((go_at_call 91;refine cM (g.o _ eA) ?_;rintro e w1 ⟨rfl,b⟩;obtain⟨⟨j,k⟩,f⟩:=oe w b))|((go_at_call 92;(with_reducible refine(jn _ u).mono ?_);rw[k3];rintro e w2 ⟨rfl,i⟩;obtain⟨⟨r,s⟩,m⟩:=oe w i))|((go_at_call 92;(with_reducible refine(jn _ z).mono ?_);rw[k4];rintro e w3 ⟨rfl,l⟩;obtain⟨⟨K,P⟩,q⟩:=oe w l)));go_ret;exact⟨rfl,eA⟩
      ·(have y:Ra R 1 3=false:=by simp[Ra];omega);rw[y];clear y;go_in;go_wp2_with(first|((go_at_call 91;refine cM (g.o _ eA) ?_;rintro e w1 ⟨rfl,b⟩;obtain⟨⟨j,k⟩,f⟩:=oe w b))|((go_at_call 92;(with_reducible refine(jn _ u).mono ?_);rw[k3];rintro e w2 ⟨rfl,i⟩;obtain⟨⟨r,s⟩,m⟩:=oe w i))|((go_at_call 92;(with_reducible refine(jn _ z).mono ?_);rw[k4];rintro e w3 ⟨rfl,l⟩;obtain⟨⟨K,P⟩,q⟩:=oe w l)));go_ret;exact⟨rfl,eA⟩
     ·go_in;go_wp2_with(first|((go_at_call 91;refine cM (g.o _ eA) ?_;rintro e w1 ⟨rfl,b⟩;obtain⟨⟨j,k⟩,f⟩:=oe w b))|((go_at_call 92;(with_reducible refine(jn _ u).mono ?_);rw[k3];rintro e w2 ⟨rfl,i⟩;obtain⟨⟨r,s⟩,m⟩:=oe w i))|((go_at_call 92;(with_reducible refine(jn _ z).mono ?_);rw[k4];rintro e w3 ⟨rfl,l⟩;obtain⟨⟨K,P⟩,q⟩:=oe w l)));go_ret;exact⟨rfl,eA⟩
    ·go_in;go_wp2_with(first|((go_at_call 91;refine cM (g.o _ eA) ?_;rintro e w1 ⟨rfl,b⟩;obtain⟨⟨j,k⟩,f⟩:=oe w b))|((go_at_call 92;(with_reducible refine(jn _ u).mono ?_);rw[k3];rintro e w2 ⟨rfl,i⟩;obtain⟨⟨r,s⟩,m⟩:=oe w i)));go_ret;exact⟨rfl,eA⟩
   ·(have x:Ra t 0 7=false:=by simp[Ra];omega);rw[x,Bool.false_and];clear x;go_in;go_wp2_with(first|((go_at_call 91;refine cM (g.o _ eA) ?_;rintro e w1 ⟨rfl,b⟩;obtain⟨⟨j,k⟩,f⟩:=oe w b)));go_ret;exact⟨rfl,eA⟩
  ·have x:Ra t 0 7=false:=by simp[Ra];omega
   rw[x,Bool.false_and];clear x;go_in;go_wp2_with(first|((go_at_call 91;refine cM (g.o _ eA) ?_;rintro e w1 ⟨rfl,b⟩;obtain⟨⟨j,k⟩,f⟩:=oe w b)));go_ret;exact⟨rfl,eA⟩
end
section
open Go.RowKit Go.Shelf Go.Sort
def qi{α:Type}(B:α->Prop)[DecidablePred B](cf:α->α->Int)(d:{x // B x})(xs:List α):List α:=
 if h:∀x∈xs,B x then
  (@pdq {x // B x} ⟨d⟩ (ltOf fun x y:{x // B x}=>cf x.1 y.1) (xs.attachWith B h).toArray 0 xs.length (Lib.bitLen xs.length) true true).toList.map (·.1)
 else xs
def Tr{α:Type}{B}{xs:List α}(h:∀x∈xs,B x):(xs.attachWith B h).map (·.1)=xs:=sM
def BP(p:Int×Int):Prop:=Bd 1000000 p.1/\Bd 1000000 p.2
instance:DecidablePred BP:=fun p=>by unfold BP Bd;exact inferInstance
def Zy:{x // BP x}:=⟨(0,0),by decide⟩
def Am(p q:Int×Int):Int:=p.1-q.1
def jf(ps:LP):LP:=qi BP Am Zy ps
instance:Inhabited {x // BP x}:=⟨Zy⟩
def lv x y:ltOf (fun x y:{x // BP x}=>Am x.1 y.1) x y=decide (x.1.1<y.1.1):=by unfold ltOf Am;rw[decide_eq_decide];dsimp only;omega
def yn:@SWO {x // BP x} (ltOf fun x y:{x // BP x}=>Am x.1 y.1) where
 irrefl x:=by rw[lv];simp
 trans x y z h1 h2:=by rw[lv]at *;simp only[decide_eq_true_eq]at *;omega
 ntrans x y z h1 h2:=by rw[lv]at *;simp only[decide_eq_false_iff_not]at *;omega
def IL(x y:{x // BP x}) W:Calls Tryz.prog 126 #[.agg #[O Y x.1.1,O Y x.1.2],.agg #[O Y y.1.1,O Y y.1.2]] W fun e i=>e=.returned (O Y (Am x.1 y.1))/\∃q os',i=grow (W.drewN q) os':=by obtain⟨⟨j,k⟩,⟨c,d⟩,a⟩:=x;obtain⟨⟨l,m⟩,⟨f,g⟩,b⟩:=y;unfold Am;dsimp only at *;clear a b;go_in;go_wp2;go_ret;exact⟨rfl,0,_,by rw[alloc_eq_grow,alloc_eq_grow,grow_grow];rfl⟩
def sm blk off size w:CmpLays Tryz.prog 126 #[] (fun x:{x // BP x}=>pc x.1) 2 (fun x y=>Am x.1 y.1) blk off size w:=
 fun _ _ _ _ x y=>IL x y _
def YC{β}[Inhabited β]{lt}(hO:SWO lt)(d:Array β) l:(pdq lt d 0 d.size l true true).size=d.size/\(pdq lt d 0 d.size l true true).toList.Perm d.toList:=by
 obtain⟨a,_,b⟩:=(pdq_sorts lt hO d 0 d.size l true true (Nat.zero_le _) (nE _) (Or.inl rfl)).1;refine⟨a,?_⟩;generalize pdq lt d 0 d.size l true true=d' at a b ⊢;have c:d'.extract 0 d.size=d':=by rw[<-a];exact Array.extract_size
 rw[c,Array.extract_size]at b;exact b
def rP{α B}[DecidablePred B]{cf d}{xs:List α}(hO:@SWO {x // B x} (ltOf fun x y:{x // B x}=>cf x.1 y.1)):(qi B cf d xs).Perm xs:=by
 unfold qi;split
 ·rename_i h;have b:=(@YC {x // B x} ⟨d⟩ _ hO (xs.attachWith B h).toArray (Lib.bitLen xs.length)).2;have a:=b.map (·.1);rw[show (xs.attachWith B h).toArray.size=xs.length by simp]at a;have e:(xs.attachWith B h).toArray.toList.map (·.1)=xs:=Tr h;rw[e]at a;exact a
 ·exact List.Perm.refl _
def Vk ps:(jf ps).Perm ps:=rP yn
def Kn w base g n c ps(h:Ka 43 2 w base (Z (X ⟨g,0,J⟩) n c) (ps.map pc))(z:tg 1000000 ps)(K:ps.length<=1000000):Calls Tryz.prog 127 #[Z (X ⟨g,0,J⟩) n c,.func (.func 126) #[] #[]] w fun e f=>e=.returned (.tuple #[])/\Ka 43 2 f base (Z (X ⟨g,0,J⟩) n c) ((jf ps).map pc)/\w.grownBy f (X g):=by
 have p:=h.len;rw[lL]at p;obtain⟨d,o⟩:=gX ((ps.attachWith BP z).toArray);have a:d.size=n:=by rw[<-o,p,List.size_toArray];exact List.length_attachWith
 have j:d.toList.map (fun x=>pc x.1)=ps.map pc:=by
  rw[<-o,show (fun x:{x // BP x}=>pc x.1)=pc ∘ (·.1)from rfl,<-List.map_map]
  congr 1
  exact Tr z
 have W:jf ps=(pdq (ltOf fun x y:{x // BP x}=>Am x.1 y.1) d 0 d.size (Lib.bitLen d.size) true true).toList.map (·.1):=by
  unfold jf qi;rw[dif_pos (show ∀x∈ps,BP x from z),a,o,p]
 have hg:=(h.lt g rfl).2;have R:∀args w,(callFunc 126 args).run Tryz.prog w = .ok (.enter 126 args) w:=enters_of Tryz.func126 kM rfl;have s:Ka 43 2 w base (Z (X ⟨g,0,J⟩) n c) (d.toList.map fun x=>pc x.1):=by rw[j];exact h
 have t:=UE (enc:=fun x:{x // BP x}=>pc x.1) (fun _=>rfl) s;have b:Lib.bitLen d.size<4611686018427387904:=Nat.lt_of_le_of_lt (Lib.bitLen_le d.size 62 oM oM) oM;have l:Calls Tryz.prog 180 #[Z (X ⟨g,0,J⟩) d.size c,O Y 0,O Y d.size,O Y (Lib.bitLen d.size),.func (.func 126) #[] #[]] w fun e f=>e=.returned (.tuple #[])/\SWK (fun x:{x // BP x}=>pc x.1) 2 w g 0 (pdq (ltOf fun x y:{x // BP x}=>Am x.1 y.1) d 0 d.size (Lib.bitLen d.size) true true) f:=AnyQ.pdqsortCmpFunc_all (P:=Tryz.prog) (ρ:=Tryz.pdqPoint_ren) Tryz.pdqPoint 2 Tryz.isAgg43 Tryz.sizeOf43 (fun x:{x // BP x}=>pc x.1) (fun x y=>Am x.1 y.1) 126 #[] yn g 0 c d w R (sm g 0 d.size w) ⟨fun _=>rfl,fun x v hv=>by simp[pc]at hv;rcases hv with rfl|rfl<;>rfl,t,hg⟩ (d.size+1) 0 d.size (Lib.bitLen d.size) d w oM rfl (SWK.start t) (Nat.zero_le _) (nE _) oM b (Or.inl rfl);have k:Calls Tryz.prog 175 #[O .u64 (d.size:Int)] w fun e f=>e=.returned (O Y (Lib.bitLen d.size:Nat))/\f=w:=by
  have h:=Tryz.bits_Len (d.size:Int) w oM oM
  rwa [Int.toNat_natCast]at h
 have wr:IntKind.u64.wrap (d.size:Int)=d.size:=by simp[IntKind.wrap,IntKind.bits,IntKind.signed];omega
 have HX:=ka W;have H':=ka s;rw[a]at wr;have i:=ka a;have aa:n<=1000000:=oM;rw[a]at l k;have r:=ka l;have q:=ka k;obtain⟨L,u⟩:=gX (Lib.bitLen n);rw[u]at l k;have Hp:=ka l;have Hl:=ka k;have HL:=ka u;clear l k W s o a u b R j t h p K r q;go_in;go_wp2_with(first|((go_at_call 175;(with_reducible refine Hl.o.mono ?_);rintro e f ⟨rfl,rfl⟩))|((go_at_call 180;(with_reducible refine Hp.o.mono ?_);rintro e f ⟨rfl,m,os,rfl⟩)))
 go_end0
 refine⟨rfl,?_,nu _⟩;have:=Bx (m:=m) (os:=os) (enc:=fun x:{x // BP x}=>pc x.1) (fun _=>rfl) (d':=pdq (ltOf fun x y:{x // BP x}=>Am x.1 y.1) d 0 n L true true) H'.o ?_
 ·rw[HX.o,i.o,HL.o,List.map_map];exact this
 ·have:=(YC yn d L).1;rw[i.o]at this ⊢;exact this
