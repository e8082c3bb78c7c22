import Derived.Test.YtjnjpagegkcgfaaGreatDoorCoqA04
import Derived.Laws.StructEq
import Derived.Deep.RegionLaw
import Derived.Lib.AppendZerosOnto
set_option maxRecDepth 1000000
set_option maxHeartbeats 16000000
set_option linter.all false
open Go.IntKind renaming i64->O
open Go.Value renaming int->Y,agg->I,slice->J,pointer->N,bool->H
open Option renaming some->Z,none->X
open Go renaming World->V,Value->M
namespace Go.Proofs.YtjnjpagegkcgfaaGreatDoor.Cop
section
open Go.RowKit Go.Shelf
def Xh(m q:Int×Int):Int×Int:=if Xk q m<0 then q else m
def Af:LP->Int×Int
 | []=>(0,0)
 | p::ps=>ps.foldl Xh p
def FP(ps:LP) q(h:ps≠[]):Af (ps++[q])=Xh (Af ps) q:=by
 cases ps with
 | nil=>exact absurd rfl h
 | cons p ps=>simp[Af]
def DR(w:V)(ps:LP)(g:Nat)(a:M)(W:V):Prop:=
 ∃i:Nat,1<=i/\i<=ps.length/\a=Y O i/\g=ps.length-i/\Aa w W/\W.heap[w.heap.size]?=Z (.cells #[Y O 0,Y O 0] 43 (0,0))/\
  ∃x z,Af (ps.take i)=(x,z)/\W.heap[w.heap.size+1]?=Z (.cells #[Y O x,Y O z] 43 (0,0))
def lN w v ps(h:Fa w v ps)(h0:0<ps.length):Calls Tryz.prog 209 #[v,.func (.func 210) #[] #[]] w fun e w'=>e=.returned (I #[Y O (Af ps).1,Y O (Af ps).2])/\Aa w w':=by
 obtain⟨a,c,rfl⟩:=h.form;obtain⟨n,hn⟩:=gX ps.length;rw[hn]at h ⊢;have ab:=h.le;unfold maxLen at ab;have ap:0<n:=oM;have aq:(1:Int)<=(n:Int):=oM;have ar:n<=9223372036854775807:=oM;obtain⟨⟨x0,z0⟩,hp⟩:∃p,ps[0]?=Z p:=⟨ps[0],by simp⟩;obtain⟨b,o,rfl,hb,c0,c1⟩:=h.at' hp;simp only[Nat.zero_mul,Nat.add_zero]at c0 c1;have an:b<w.heap.size+1:=oM;have ac:Af (ps.take 1)=(x0,z0):=by rw[Uf _ _ _ hp];rfl
 have ah:=ka ac;have f:=ka hn;clear hn ab hp h0 ac;go_in;go_wp2;go_loopg [6] (n-1) (DR w ps)
 case atStart =>
  exact⟨1,nE _,by rw[f.o];omega,rfl,by rw[f.o],eA,by rw[Dg,if_neg sM];exact Bc _ _ _ rfl,x0,z0,ah.o,Bc _ _ _ sM⟩
 case round =>
  obtain⟨i,ao,hi,rfl,rfl,hx,s,x,z,hv,r⟩:=hrel;rw[f.o]at hi;have r0:=Ba s (i:=0) (u:=Y O 0) rfl;have r1:=Ba s (i:=1) (u:=Y O 0) rfl;have aw:=Ya s 0;have ax:=Ya s 1;have o0:=Ba r (i:=0) (u:=Y O x) rfl;have o1:=Ba r (i:=1) (u:=Y O z) rfl;have au:=Ya r 0;have av:=Ya r 1;have zr:=Jb s;have zo:=Jb r;have HR:=ka s;have HO:=ka r;have HV:=ka hv;clear s r hv c0 c1;by_cases al:i<n
  ·obtain⟨⟨y,K⟩,hq⟩:∃q,ps[i]?=Z q:=⟨ps[i]'(by rw[f.o];omega),by simp[f.o,al]⟩;obtain⟨b',o',e',am,d0,d1⟩:=(h.f hx).at' hq;cases e';have ad:ps.take i≠[]:=by
    intro e;(have h2:(ps.take i).length=0:=by rw[e];rfl);rw[List.length_take,f.o]at h2;omega
   have d:Af (ps.take (i+1))=Xh (x,z) (y,K):=by rw[Uf _ _ _ hq,FP _ _ ad,HV.o]
   obtain⟨C,hC⟩:=gX (Xk (y,K) (x,z));unfold Xh at d;rw[hC]at d;have aa:=ka d;have k:=fun W=>Kv W y K x z;rw[hC]at k;have m:=ka k;clear hq d ad hC k;have p1:(0:Int)<=(i:Int):=oM;have p2:(i:Int)<(n:Int):=oM;by_cases P:C<0
   ·(have aj:decide (C<0)=true:=by simpa using P);have R:=ka P;clear P;go_wp2;go_region_held3 (fun W=>W.cell? ⟨b,o+i*2,X⟩=Z (Y O y)/\W.cell? ⟨b,o+i*2+1,X⟩=Z (Y O K)/\W.cell? ⟨w.heap.size+1,0,X⟩=Z (Y O x)/\W.cell? ⟨w.heap.size+1,1,X⟩=Z (Y O z)) ((repeat' (with_reducible refine And.intro ?_ ?_))<;>(first|(go_simp;done)|(refine hx1.d ?_;go_simp;done))) (((go_at_call 210;refine cM (m.o _) ?_;rintro e w1 ⟨rfl,hx1⟩;obtain⟨⟨ai,ak⟩,ae,af⟩:=Yb w hx1)))
    all_goals go_wp2
    all_goals
     go_roundg (n-(i+1))
     case measure=>have:=f.o;omega
     case rel =>
      have l:Aa wr w1:=(eR wr).drew.trans hx1;have j:=l.e HR.o;have g:=l.e HO.o;have d:=aa.o
      first
       | (rw[if_pos R.o]at d;exact⟨i+1,by omega,by rw[f.o];omega,by go_num,by rw[f.o],eA,by rw[bS _ _ _ _ dO,bS _ _ _ _ dO];exact j,y,K,d,Xj g _ _⟩)
       | (rw[if_neg (by have:=R.o;omega)]at d;exact⟨i+1,by omega,by rw[f.o];omega,by go_num,by rw[f.o],eA,j,x,z,d,g⟩)
   ·(have aj:decide (C<0)=false:=by simpa using P);have R:=ka P;clear P;go_wp2;go_region_held3 (fun W=>W.cell? ⟨b,o+i*2,X⟩=Z (Y O y)/\W.cell? ⟨b,o+i*2+1,X⟩=Z (Y O K)/\W.cell? ⟨w.heap.size+1,0,X⟩=Z (Y O x)/\W.cell? ⟨w.heap.size+1,1,X⟩=Z (Y O z)) ((repeat' (with_reducible refine And.intro ?_ ?_))<;>(first|(go_simp;done)|(refine hx1.d ?_;go_simp;done))) (((go_at_call 210;refine cM (m.o _) ?_;rintro e w1 ⟨rfl,hx1⟩;obtain⟨⟨ai,ak⟩,ae,af⟩:=Yb w hx1)))
    all_goals go_wp2
    all_goals
     go_roundg (n-(i+1))
     case measure=>have:=f.o;omega
     case rel =>
      have l:Aa wr w1:=(eR wr).drew.trans hx1;have j:=l.e HR.o;have g:=l.e HO.o;have d:=aa.o
      first
       | (rw[if_pos R.o]at d;exact⟨i+1,by omega,by rw[f.o];omega,by go_num,by rw[f.o],eA,by rw[bS _ _ _ _ dO,bS _ _ _ _ dO];exact j,y,K,d,Xj g _ _⟩)
       | (rw[if_neg (by have:=R.o;omega)]at d;exact⟨i+1,by omega,by rw[f.o];omega,by go_num,by rw[f.o],eA,j,x,z,d,g⟩)
  ·obtain rfl:i=n:=oM;have t:=HV.o;rw[lT (by rw[f.o];omega)]at t;have ag:=ka t;clear t;go_wp2;refine bR (v:=I #[Y O x,Y O z]) (by simp[results,Tryz.results209,go_sem,r0,r1]) rfl ⟨?_,eA⟩;rw[ag.o]
def ue(ps:LP):Bool:=!(ps.any We)&&Za ps&&(Va ps==(0,0))&&(Af ps==ps.getD 0 (0,0))
def Vw{ps}(h:ps.any We=true):ue ps=false:=by simp[ue,h]
def Vu{ps}(h:Za ps=false):ue ps=false:=by simp[ue,h]
def uA{ps}(h:ps.any We=false):tg 2000 ps:=by intro p b;have a:=(List.any_eq_false.1 h) p b;simp[We,Ra]at a;unfold Bd;omega
def tg.mono{j k ps}(h:tg j ps)(a:j<=k):tg k ps:=fun p b=>⟨(h p b).1.mono a,(h p b).2.mono a⟩
def AF{ps}(h:Za ps=true):3<=ps.length/\ps.length<=12:=by unfold Za at h;rw[Bool.and_eq_true]at h;have:=h.1;simp[Ra]at this;omega
def pP w v ps(h:Fa w v ps):Calls Tryz.prog 162 #[v] w fun e w'=>e=.returned (H (ue ps))/\Aa w w':=by
 obtain⟨a,c,rfl⟩:=h.form;obtain⟨n,hn⟩:=gX ps.length;rw[hn]at h ⊢;have i:=fun W (hW:Aa w W)=>nO W (J a n c) ps (h.f hW);by_cases hf:ps.any We=true
 ·rw[Vw hf];rw[hf]at i;have g:=ka i;clear i hf;go_in;go_wp2_with(((go_at_call 206;refine cM (g.o _ eA) ?_;rintro e w1 ⟨rfl,d⟩)));go_ret;exact⟨rfl,eA⟩
 have K:ps.any We=false:=by simpa using hf
 have aj:=uA K;rw[K]at i;have g:=ka i;have u:=fun W (hW:Aa w W)=>RO W (J a n c) ps (h.f hW) (aj.mono dM);by_cases hc:Za ps=true
 ·have ao:=AF hc;have h0:0<ps.length:=oM;rw[hc]at u;have q:=ka u;have al:=fun W (hW:Aa w W)=>uD W (J a n c) ps (h.f hW) h0;have an:=fun W (hW:Aa w W)=>lN W (J a n c) ps (h.f hW) h0;obtain⟨⟨lx,lz⟩,hl⟩:∃p,Va ps=p:=⟨_,rfl⟩;obtain⟨⟨t,mz⟩,hm⟩:∃p,Af ps=p:=⟨_,rfl⟩;obtain⟨⟨m,r⟩,hp⟩:∃p,ps[0]?=Z p:=⟨ps[0],by simp⟩;rw[hl]at al;rw[hm]at an;have ap:ue ps=((decide (lx=0)&&decide (lz=0))&&(decide (t=m)&&decide (mz=r))):=by
   unfold ue;rw[K,hc,hl,hm,gD,hp];rw[Bool.eq_iff_iff];simp[and_assoc]
  rw[ap];have x:=ka al;have ag:=ka an;obtain⟨b,o,rfl,hb,c0,c1⟩:=h.at' hp;simp only[Nat.zero_mul,Nat.add_zero]at c0 c1;have au:(0:Int)<(n:Int):=by rw[hn]at h0;omega
  clear al an u i hf K hc hl hm hp ap hn ao aj h0;by_cases am:lx=0/\lz=0
  ·obtain⟨rfl,rfl⟩:=am;have av:0<n:=oM;have ah:t=m/\mz=r->Calls Tryz.prog 162 #[J (Z ⟨b,o,X⟩) n c] w fun e w'=>e=.returned (H ((decide ((0:Int)=0)&&decide ((0:Int)=0))&&(decide (t=m)&&decide (mz=r))))/\Aa w w':=by
    intro j;have f1:(t==m)=true:=(by simpa using j.1);have f2:(mz==r)=true:=(by simpa using j.2);have g1:(decide (t=m)&&decide (mz=r))=true:=(by simp[j.1,j.2]);rw[g1];clear g1 j;go_in;go_wp2_with(first|((go_at_call 206;refine cM (g.o _ eA) ?_;rintro e w1 ⟨rfl,d⟩;obtain⟨ac,ae⟩:=d.cells;(have l:=d.lt hb)))|((go_at_call 207;refine cM (q.o _ eA) ?_;rintro e w2 ⟨rfl,f⟩;obtain⟨ad,af⟩:=f.cells;(have s:=f.lt l))));have ab:b<w2.heap.size:=s;go_region_held3 (fun W=>W.cell? ⟨b,o,X⟩=Z (Y O m)/\W.cell? ⟨b,o+1,X⟩=Z (Y O r)) ((repeat' (with_reducible refine And.intro ?_ ?_))<;>(first|(go_simp;done)|(refine d.d ?_;go_simp;done))) (first|((go_at_call 208;refine cM (x.o _ eA) ?_;rintro e w3 ⟨rfl,k⟩;obtain⟨y,P⟩:=k.cells;(try simp only[Jg,Ig,jc]at y P);(have aq:=k.lt ab)))|((go_at_call 209;refine cM (ag.o _ eA) ?_;rintro e w4 ⟨rfl,aa⟩;obtain⟨z,R⟩:=aa.cells;(try simp only[Jg,Ig,jc]at z R))))
    all_goals go_wp2
    go_ret;exact⟨rfl,eA⟩
   have ai:t=m/\mz≠r->Calls Tryz.prog 162 #[J (Z ⟨b,o,X⟩) n c] w fun e w'=>e=.returned (H ((decide ((0:Int)=0)&&decide ((0:Int)=0))&&(decide (t=m)&&decide (mz=r))))/\Aa w w':=by
    intro j;have f1:(t==m)=true:=(by simpa using j.1);have f2:(mz==r)=false:=(by simpa using j.2);have g1:(decide (t=m)&&decide (mz=r))=false:=(by simp[j.2]);rw[g1];clear g1 j;go_in;go_wp2_with(first|((go_at_call 206;refine cM (g.o _ eA) ?_;rintro e w1 ⟨rfl,d⟩;obtain⟨ac,ae⟩:=d.cells;(have l:=d.lt hb)))|((go_at_call 207;refine cM (q.o _ eA) ?_;rintro e w2 ⟨rfl,f⟩;obtain⟨ad,af⟩:=f.cells;(have s:=f.lt l))));have ab:b<w2.heap.size:=s;go_region_held3 (fun W=>W.cell? ⟨b,o,X⟩=Z (Y O m)/\W.cell? ⟨b,o+1,X⟩=Z (Y O r)) ((repeat' (with_reducible refine And.intro ?_ ?_))<;>(first|(go_simp;done)|(refine d.d ?_;go_simp;done))) (first|((go_at_call 208;refine cM (x.o _ eA) ?_;rintro e w3 ⟨rfl,k⟩;obtain⟨y,P⟩:=k.cells;(try simp only[Jg,Ig,jc]at y P);(have aq:=k.lt ab)))|((go_at_call 209;refine cM (ag.o _ eA) ?_;rintro e w4 ⟨rfl,aa⟩;obtain⟨z,R⟩:=aa.cells;(try simp only[Jg,Ig,jc]at z R))))
    all_goals go_wp2
    go_ret;exact⟨rfl,eA⟩
   have ar:t≠m->Calls Tryz.prog 162 #[J (Z ⟨b,o,X⟩) n c] w fun e w'=>e=.returned (H ((decide ((0:Int)=0)&&decide ((0:Int)=0))&&(decide (t=m)&&decide (mz=r))))/\Aa w w':=by
    intro j;have f1:(t==m)=false:=(by simpa using j);have g1:(decide (t=m)&&decide (mz=r))=false:=(by simp[j]);rw[g1];clear g1 j;go_in;go_wp2_with(first|((go_at_call 206;refine cM (g.o _ eA) ?_;rintro e w1 ⟨rfl,d⟩;obtain⟨ac,ae⟩:=d.cells;(have l:=d.lt hb)))|((go_at_call 207;refine cM (q.o _ eA) ?_;rintro e w2 ⟨rfl,f⟩;obtain⟨ad,af⟩:=f.cells;(have s:=f.lt l))));have ab:b<w2.heap.size:=s;go_region_held3 (fun W=>W.cell? ⟨b,o,X⟩=Z (Y O m)/\W.cell? ⟨b,o+1,X⟩=Z (Y O r)) ((repeat' (with_reducible refine And.intro ?_ ?_))<;>(first|(go_simp;done)|(refine d.d ?_;go_simp;done))) (first|((go_at_call 208;refine cM (x.o _ eA) ?_;rintro e w3 ⟨rfl,k⟩;obtain⟨y,P⟩:=k.cells;(try simp only[Jg,Ig,jc]at y P);(have aq:=k.lt ab)))|((go_at_call 209;refine cM (ag.o _ eA) ?_;rintro e w4 ⟨rfl,aa⟩;obtain⟨z,R⟩:=aa.cells;(try simp only[Jg,Ig,jc]at z R))))
    all_goals go_wp2
    go_ret;exact⟨rfl,eA⟩
   by_cases e1:t=m
   ·by_cases e2:mz=r
    ·exact ah ⟨e1,e2⟩
    ·exact ai ⟨e1,e2⟩
   ·exact ar e1
  ·have hz:(decide (lx=0)&&decide (lz=0))=false:=by
    rw[Bool.and_eq_false_iff];by_cases h1:lx=0
    ·right;simp;exact fun h2=>am ⟨h1,h2⟩
    ·left;simpa using h1
   rw[hz];clear hz;rw[Bool.false_and];have ah:lx=0/\lz≠0->Calls Tryz.prog 162 #[J (Z ⟨b,o,X⟩) n c] w fun e w'=>e=.returned (H false)/\Aa w w':=by
    intro j;have f1:(lx==0)=true:=(by simpa using j.1);have f2:(lz==0)=false:=(by simpa using j.2);clear j;go_in;go_wp2_with(first|((go_at_call 206;refine cM (g.o _ eA) ?_;rintro e w1 ⟨rfl,d⟩;obtain⟨ac,ae⟩:=d.cells;(have l:=d.lt hb)))|((go_at_call 207;refine cM (q.o _ eA) ?_;rintro e w2 ⟨rfl,f⟩;obtain⟨ad,af⟩:=f.cells;(have s:=f.lt l))))
    first|(go_region_with (((go_at_call 208;refine cM (x.o _ eA) ?_;rintro e w3 ⟨rfl,k⟩))))|fail
    all_goals go_wp2
    all_goals go_ret
    all_goals exact⟨rfl,eA⟩
   have ai:lx≠0->Calls Tryz.prog 162 #[J (Z ⟨b,o,X⟩) n c] w fun e w'=>e=.returned (H false)/\Aa w w':=by
    intro j;have f1:(lx==0)=false:=(by simpa using j);clear j;go_in;go_wp2_with(first|((go_at_call 206;refine cM (g.o _ eA) ?_;rintro e w1 ⟨rfl,d⟩;obtain⟨ac,ae⟩:=d.cells;(have l:=d.lt hb)))|((go_at_call 207;refine cM (q.o _ eA) ?_;rintro e w2 ⟨rfl,f⟩;obtain⟨ad,af⟩:=f.cells;(have s:=f.lt l))))
    first|(go_region_with (((go_at_call 208;refine cM (x.o _ eA) ?_;rintro e w3 ⟨rfl,k⟩))))|fail
    all_goals go_wp2
    all_goals go_ret
    all_goals exact⟨rfl,eA⟩
   by_cases e1:lx=0
   ·exact ah ⟨e1,fun h2=>am ⟨e1,h2⟩⟩
   ·exact ai e1
 ·have ak:Za ps=false:=by simpa using hc
  rw[Vu ak];rw[ak]at u;have q:=ka u;clear u hc ak i hf K aj;go_in;go_wp2_with(first|((go_at_call 206;refine cM (g.o _ eA) ?_;rintro e w1 ⟨rfl,d⟩))|((go_at_call 207;refine cM (q.o _ eA) ?_;rintro e w2 ⟨rfl,f⟩)));go_ret;exact⟨rfl,eA⟩
def MB w x z(a:Bd 1000000 x)(b:Bd 1000000 z):Calls Tryz.prog 327 #[I #[Y O x,Y O z]] w fun e c=>e=.returned (I #[Y O x,Y O z])/\Aa w c:=by obtain⟨d,f⟩:=a;obtain⟨g,i⟩:=b;have j:IntKind.i64.wrap (-x) = -x:=iW _ ⟨by omega,by omega⟩;have k:IntKind.i64.wrap (-z) = -z:=iW _ ⟨by omega,by omega⟩;go_in;go_wp2;exact bR (v:=I #[Y O x,Y O z]) (by simp[results,Tryz.results327,go_sem]) rfl ⟨rfl,eA⟩
def KB w x z(a:Bd 1000000 x)(b:Bd 1000000 z):Calls Tryz.prog 328 #[I #[Y O x,Y O z]] w fun e c=>e=.returned (I #[Y O (-z),Y O x])/\Aa w c:=by obtain⟨d,f⟩:=a;obtain⟨g,i⟩:=b;have j:IntKind.i64.wrap (-x) = -x:=iW _ ⟨by omega,by omega⟩;have k:IntKind.i64.wrap (-z) = -z:=iW _ ⟨by omega,by omega⟩;go_in;go_wp2;exact bR (v:=I #[Y O (-z),Y O x]) (by simp[results,Tryz.results328,go_sem]) rfl ⟨rfl,eA⟩
def JB w x z(a:Bd 1000000 x)(b:Bd 1000000 z):Calls Tryz.prog 329 #[I #[Y O x,Y O z]] w fun e c=>e=.returned (I #[Y O (-x),Y O (-z)])/\Aa w c:=by obtain⟨d,f⟩:=a;obtain⟨g,i⟩:=b;have j:IntKind.i64.wrap (-x) = -x:=iW _ ⟨by omega,by omega⟩;have k:IntKind.i64.wrap (-z) = -z:=iW _ ⟨by omega,by omega⟩;go_in;go_wp2;exact bR (v:=I #[Y O (-x),Y O (-z)]) (by simp[results,Tryz.results329,go_sem]) rfl ⟨rfl,eA⟩
def IB w x z(a:Bd 1000000 x)(b:Bd 1000000 z):Calls Tryz.prog 330 #[I #[Y O x,Y O z]] w fun e c=>e=.returned (I #[Y O z,Y O (-x)])/\Aa w c:=by obtain⟨d,f⟩:=a;obtain⟨g,i⟩:=b;have j:IntKind.i64.wrap (-x) = -x:=iW _ ⟨by omega,by omega⟩;have k:IntKind.i64.wrap (-z) = -z:=iW _ ⟨by omega,by omega⟩;go_in;go_wp2;exact bR (v:=I #[Y O z,Y O (-x)]) (by simp[results,Tryz.results330,go_sem]) rfl ⟨rfl,eA⟩
def Kd(n:Int):Bool:=decide (n < -100000) || decide (100000<n)
def jn w n:Calls Tryz.prog 92 #[Y O n] w fun e b=>e=.returned (H (Kd n))/\Aa w b:=by
 unfold Kd;by_cases h:n < -100000
 ·have a:decide (n < -100000)=true:=by simpa using h
  go_in;go_wp2;go_ret;exact⟨by simp[a],eA⟩
 ·have a:decide (n < -100000)=false:=by simpa using h
  go_in;go_wp2;go_ret;exact⟨by simp[a],eA⟩
def EP w n:Calls Tryz.prog 92 #[Y O n] w fun e b=>e=.returned (H (Kd n))/\b=w:=by
 unfold Kd;by_cases h:n < -100000
 ·have a:decide (n < -100000)=true:=by simpa using h
  go_in;go_wp2;go_ret;exact⟨by simp[a],rfl⟩
 ·have a:decide (n < -100000)=false:=by simpa using h
  go_in;go_wp2;go_ret;exact⟨by simp[a],rfl⟩
def SA w v ps x z(h:Fa w v ps):Calls Tryz.prog 238 #[v,I #[Y O x,Y O z]] w fun e w'=>e=.returned (Y O (Le (fun p=>(x,z)==p) ps))/\Aa w w':=by
 obtain⟨a,c,rfl⟩:=h.form;obtain⟨n,hn⟩:=gX ps.length;rw[hn]at h ⊢;have K:=h.le;unfold maxLen at K;have ab:n<=9223372036854775807:=oM;obtain⟨F,hF⟩:∃F:Int×Int->Bool,F=fun p=>(x,z)==p:=⟨_,rfl⟩;rw[<-hF];have HF:=ka hF;have f:=ka hn;clear hn K hF;go_in;go_wp2;go_loopg [8] n (fun g t8 W=>SF w F ps g t8 W/\W.cell? ⟨w.heap.size,0,X⟩=Z (Y O x)/\W.cell? ⟨w.heap.size,1,X⟩=Z (Y O z))
 case atStart=>exact⟨⟨0,by omega,rfl,by rw[f.o];rfl,eA,fun j y u=>by omega⟩,by go_simp,by go_simp⟩
 case round =>
  obtain⟨⟨i,hi,rfl,rfl,hx,l⟩,k0,k1⟩:=hrel;rw[f.o]at hi;have d:=ka l;clear l;by_cases aa:i<n
  ·obtain⟨q,hq⟩:∃q,ps[i]?=Z q:=⟨ps[i]'(by rw[f.o];omega),by simp[f.o,aa]⟩;obtain⟨P,R⟩:=q;obtain⟨b,o,rfl,hb,d0,d1⟩:=(h.f hx).at' hq;have Hq:=ka hq;clear hq;have p1:(0:Int)<=(i:Int):=oM;have p2:(i:Int)<(n:Int):=oM;by_cases m:x=P
   ·(have f1:(x==P)=true:=by simpa using m);by_cases s:z=R
    ·(have f2:(z==R)=true:=by simpa using s);have e:Le F ps=(i:Int):=Gr Hq.o (by rw[HF.o];simp[m,s]) d.o;have E:=ka e;clear e m s;go_wp2;go_quiet (fail);go_wp2;go_ret;exact⟨by rw[E.o];rfl,eA⟩
    ·(have f2:(z==R)=false:=by simpa using s);(have t:F (P,R)=false:=by rw[HF.o];simp[s]);have G1:=ka t;clear m s t;go_wp2;go_quiet (fail);go_wp2;go_roundg (n-(i+1))
     case measure=>have:=f.o;omega
     case rel =>
      refine⟨⟨i+1,by have:=f.o;omega,by go_num,by rw[f.o],eA,fun j y u k=>?_⟩,by go_simp,by go_simp⟩;by_cases r:j=i
      ·subst r;rw[Hq.o]at k;cases k;exact G1.o
      ·exact d.o j y oM k
   ·(have f1:(x==P)=false:=by simpa using m);(have t:F (P,R)=false:=by rw[HF.o];simp[m]);have G1:=ka t;clear m t;go_wp2;go_quiet (fail);go_wp2;go_roundg (n-(i+1))
    case measure=>have:=f.o;omega
    case rel =>
     refine⟨⟨i+1,by have:=f.o;omega,by go_num,by rw[f.o],eA,fun j y u k=>?_⟩,by go_simp,by go_simp⟩;by_cases r:j=i
     ·subst r;rw[Hq.o]at k;cases k;exact G1.o
     ·exact d.o j y oM k
  ·obtain rfl:i=n:=oM;have e:Le F ps = -1:=Lu (fun j y u k=>d.o j y (by rw[f.o]at u;exact u) k);have E:=ka e;clear e;go_wp2;go_ret;exact⟨by rw[E.o];rfl,hx⟩
def Gw(w:V):Prop:=0<w.heap.size/\w.cell? ⟨0,0,X⟩=Z (.func (.func 327) #[] #[])/\w.cell? ⟨0,1,X⟩=Z (.func (.func 328) #[] #[])/\w.cell? ⟨0,2,X⟩=Z (.func (.func 329) #[] #[])/\w.cell? ⟨0,3,X⟩=Z (.func (.func 330) #[] #[])
def Gw.ext{w w'}(h:Gw w)(k:Aa w w'):Gw w':=by obtain⟨a,b,c,d,e⟩:=h;exact⟨k.lt a,k.d b,k.d c,k.d d,k.d e⟩
def Wc(way:Int)(p:Int×Int):Int×Int:=
 let q:=if 3<way then (-p.1,p.2)else p
 if way%4=0 then q else if way%4=1 then (-q.2,q.1)else if way%4=2 then (-q.1,-q.2)else (q.2,-q.1)
def LN w x z c(p:w.cell? ⟨c,0,X⟩=Z (Y O 0))(o:Gw w)(f:Bd 1000000 x)(g:Bd 1000000 z):Calls Tryz.prog 197 #[I #[Y O x,Y O z],N (Z ⟨c,0,X⟩)] w fun e q=>e=.returned (I #[Y O x,Y O z])/\Aa w q:=by
 obtain⟨u,j,k,l,m⟩:=o;have HX:=ka f;have i:=ka g;have P:c<w.heap.size:=World.block_lt_of_cell? w _ p;have t:c<w.heap.size+1:=oM;have s:0<w.heap.size+1:=oM;have y:w.cell? ⟨0,0,X⟩=Z (.func (.func 327) #[] #[]):=by assumption
 clear f g j k l m;go_in;go_wp2
 first|(go_region_with (((go_at_call 327;(with_reducible refine(MB _ x z HX.o i.o).mono ?_);rintro e K ⟨rfl,b⟩;obtain⟨a,d⟩:=b.cells;(try simp only[Jg,Ig,jc]at a d);have r:=b.lt (n:=w.heap.size+1) (by go_simp)))))|fail
 all_goals go_wp2
 all_goals exact bR (v:=I #[Y O x,Y O z]) (by simp[results,Tryz.results197,go_sem,a,r]) rfl ⟨rfl,eA⟩
def KN w x z c(p:w.cell? ⟨c,0,X⟩=Z (Y O 1))(o:Gw w)(f:Bd 1000000 x)(g:Bd 1000000 z):Calls Tryz.prog 197 #[I #[Y O x,Y O z],N (Z ⟨c,0,X⟩)] w fun e q=>e=.returned (I #[Y O (-z),Y O x])/\Aa w q:=by
 obtain⟨u,j,k,l,m⟩:=o;have HX:=ka f;have i:=ka g;have P:c<w.heap.size:=World.block_lt_of_cell? w _ p;have t:c<w.heap.size+1:=oM;have s:0<w.heap.size+1:=oM;have y:w.cell? ⟨0,1,X⟩=Z (.func (.func 328) #[] #[]):=by assumption
 clear f g j k l m;go_in;go_wp2
 first|(go_region_with (((go_at_call 328;(with_reducible refine(KB _ x z HX.o i.o).mono ?_);rintro e K ⟨rfl,b⟩;obtain⟨a,d⟩:=b.cells;(try simp only[Jg,Ig,jc]at a d);have r:=b.lt (n:=w.heap.size+1) (by go_simp)))))|fail
 all_goals go_wp2
 all_goals exact bR (v:=I #[Y O (-z),Y O x]) (by simp[results,Tryz.results197,go_sem,a,r]) rfl ⟨rfl,eA⟩
def JN w x z c(p:w.cell? ⟨c,0,X⟩=Z (Y O 2))(o:Gw w)(f:Bd 1000000 x)(g:Bd 1000000 z):Calls Tryz.prog 197 #[I #[Y O x,Y O z],N (Z ⟨c,0,X⟩)] w fun e q=>e=.returned (I #[Y O (-x),Y O (-z)])/\Aa w q:=by
 obtain⟨u,j,k,l,m⟩:=o;have HX:=ka f;have i:=ka g;have P:c<w.heap.size:=World.block_lt_of_cell? w _ p;have t:c<w.heap.size+1:=oM;have s:0<w.heap.size+1:=oM;have y:w.cell? ⟨0,2,X⟩=Z (.func (.func 329) #[] #[]):=by assumption
 clear f g j k l m;go_in;go_wp2
 first|(go_region_with (((go_at_call 329;(with_reducible refine(JB _ x z HX.o i.o).mono ?_);rintro e K ⟨rfl,b⟩;obtain⟨a,d⟩:=b.cells;(try simp only[Jg,Ig,jc]at a d);have r:=b.lt (n:=w.heap.size+1) (by go_simp)))))|fail
 all_goals go_wp2
 all_goals exact bR (v:=I #[Y O (-x),Y O (-z)]) (by simp[results,Tryz.results197,go_sem,a,r]) rfl ⟨rfl,eA⟩
def IN w x z c(p:w.cell? ⟨c,0,X⟩=Z (Y O 3))(o:Gw w)(f:Bd 1000000 x)(g:Bd 1000000 z):Calls Tryz.prog 197 #[I #[Y O x,Y O z],N (Z ⟨c,0,X⟩)] w fun e q=>e=.returned (I #[Y O z,Y O (-x)])/\Aa w q:=by
 obtain⟨u,j,k,l,m⟩:=o;have HX:=ka f;have i:=ka g;have P:c<w.heap.size:=World.block_lt_of_cell? w _ p;have t:c<w.heap.size+1:=oM;have s:0<w.heap.size+1:=oM;have y:w.cell? ⟨0,3,X⟩=Z (.func (.func 330) #[] #[]):=by assumption
 clear f g j k l m;go_in;go_wp2
 first|(go_region_with (((go_at_call 330;(with_reducible refine(IB _ x z HX.o i.o).mono ?_);rintro e K ⟨rfl,b⟩;obtain⟨a,d⟩:=b.cells;(try simp only[Jg,Ig,jc]at a d);have r:=b.lt (n:=w.heap.size+1) (by go_simp)))))|fail
 all_goals go_wp2
 all_goals exact bR (v:=I #[Y O z,Y O (-x)]) (by simp[results,Tryz.results197,go_sem,a,r]) rfl ⟨rfl,eA⟩
def GN w x z d(q:w.cell? ⟨d,0,X⟩=Z (Y O 4))(p:Gw w)(g:Bd 1000000 x)(i:Bd 1000000 z):Calls Tryz.prog 197 #[I #[Y O x,Y O z],N (Z ⟨d,0,X⟩)] w fun e r=>e=.returned (I #[Y O (-x),Y O z])/\Aa w r:=by
 obtain⟨y,k,l,m,o⟩:=p;have b:Bd 1000000 (-x):=by unfold Bd at *;omega
 have HX:=ka b;have j:=ka i;have W:d<w.heap.size:=World.block_lt_of_cell? w _ q;have u:d<w.heap.size+1:=oM;have t:0<w.heap.size+1:=oM;have K:w.cell? ⟨0,0,X⟩=Z (.func (.func 327) #[] #[]):=by assumption
 have R:IntKind.i64.wrap (-x) = -x:=by unfold Bd at g;exact iW _ ⟨by omega,by omega⟩
 clear g i k l m o b;go_in;go_wp2
 first|(go_region_with (((go_at_call 327;(with_reducible refine(MB _ (-x) z HX.o j.o).mono ?_);rintro e P ⟨rfl,c⟩;obtain⟨a,f⟩:=c.cells;(try simp only[Jg,Ig,jc]at a f);have s:=c.lt (n:=w.heap.size+1) (by go_simp)))))|fail
 all_goals go_wp2
 all_goals exact bR (v:=I #[Y O (-x),Y O z]) (by simp[results,Tryz.results197,go_sem,a,s]) rfl ⟨rfl,eA⟩
def FN w x z d(q:w.cell? ⟨d,0,X⟩=Z (Y O 5))(p:Gw w)(g:Bd 1000000 x)(i:Bd 1000000 z):Calls Tryz.prog 197 #[I #[Y O x,Y O z],N (Z ⟨d,0,X⟩)] w fun e r=>e=.returned (I #[Y O (-z),Y O (-x)])/\Aa w r:=by
 obtain⟨y,k,l,m,o⟩:=p;have b:Bd 1000000 (-x):=by unfold Bd at *;omega
 have HX:=ka b;have j:=ka i;have W:d<w.heap.size:=World.block_lt_of_cell? w _ q;have u:d<w.heap.size+1:=oM;have t:0<w.heap.size+1:=oM;have K:w.cell? ⟨0,1,X⟩=Z (.func (.func 328) #[] #[]):=by assumption
 have R:IntKind.i64.wrap (-x) = -x:=by unfold Bd at g;exact iW _ ⟨by omega,by omega⟩
 clear g i k l m o b;go_in;go_wp2
 first|(go_region_with (((go_at_call 328;(with_reducible refine(KB _ (-x) z HX.o j.o).mono ?_);rintro e P ⟨rfl,c⟩;obtain⟨a,f⟩:=c.cells;(try simp only[Jg,Ig,jc]at a f);have s:=c.lt (n:=w.heap.size+1) (by go_simp)))))|fail
 all_goals go_wp2
 all_goals exact bR (v:=I #[Y O (-z),Y O (-x)]) (by simp[results,Tryz.results197,go_sem,a,s]) rfl ⟨rfl,eA⟩
def EN w x z d(q:w.cell? ⟨d,0,X⟩=Z (Y O 6))(p:Gw w)(g:Bd 1000000 x)(i:Bd 1000000 z):Calls Tryz.prog 197 #[I #[Y O x,Y O z],N (Z ⟨d,0,X⟩)] w fun e r=>e=.returned (I #[Y O (- -x),Y O (-z)])/\Aa w r:=by
 obtain⟨y,k,l,m,o⟩:=p;have b:Bd 1000000 (-x):=by unfold Bd at *;omega
 have HX:=ka b;have j:=ka i;have W:d<w.heap.size:=World.block_lt_of_cell? w _ q;have u:d<w.heap.size+1:=oM;have t:0<w.heap.size+1:=oM;have K:w.cell? ⟨0,2,X⟩=Z (.func (.func 329) #[] #[]):=by assumption
 have R:IntKind.i64.wrap (-x) = -x:=by unfold Bd at g;exact iW _ ⟨by omega,by omega⟩
 clear g i k l m o b;go_in;go_wp2
 first|(go_region_with (((go_at_call 329;(with_reducible refine(JB _ (-x) z HX.o j.o).mono ?_);rintro e P ⟨rfl,c⟩;obtain⟨a,f⟩:=c.cells;(try simp only[Jg,Ig,jc]at a f);have s:=c.lt (n:=w.heap.size+1) (by go_simp)))))|fail
 all_goals go_wp2
 all_goals exact bR (v:=I #[Y O (- -x),Y O (-z)]) (by simp[results,Tryz.results197,go_sem,a,s]) rfl ⟨rfl,eA⟩
def DN w x z d(q:w.cell? ⟨d,0,X⟩=Z (Y O 7))(p:Gw w)(g:Bd 1000000 x)(i:Bd 1000000 z):Calls Tryz.prog 197 #[I #[Y O x,Y O z],N (Z ⟨d,0,X⟩)] w fun e r=>e=.returned (I #[Y O z,Y O (- -x)])/\Aa w r:=by
 obtain⟨y,k,l,m,o⟩:=p;have b:Bd 1000000 (-x):=by unfold Bd at *;omega
 have HX:=ka b;have j:=ka i;have W:d<w.heap.size:=World.block_lt_of_cell? w _ q;have u:d<w.heap.size+1:=oM;have t:0<w.heap.size+1:=oM;have K:w.cell? ⟨0,3,X⟩=Z (.func (.func 330) #[] #[]):=by assumption
 have R:IntKind.i64.wrap (-x) = -x:=by unfold Bd at g;exact iW _ ⟨by omega,by omega⟩
 clear g i k l m o b;go_in;go_wp2
 first|(go_region_with (((go_at_call 330;(with_reducible refine(IB _ (-x) z HX.o j.o).mono ?_);rintro e P ⟨rfl,c⟩;obtain⟨a,f⟩:=c.cells;(try simp only[Jg,Ig,jc]at a f);have s:=c.lt (n:=w.heap.size+1) (by go_simp)))))|fail
 all_goals go_wp2
 all_goals exact bR (v:=I #[Y O z,Y O (- -x)]) (by simp[results,Tryz.results197,go_sem,a,s]) rfl ⟨rfl,eA⟩
def Ax w x z way a(c:w.cell? ⟨a,0,X⟩=Z (Y O way))(i:0<=way)(j:way<=7)(b:Gw w)(d:Bd 1000000 x)(f:Bd 1000000 z):Calls Tryz.prog 197 #[I #[Y O x,Y O z],N (Z ⟨a,0,X⟩)] w fun e g=>e=.returned (I #[Y O (Wc way (x,z)).1,Y O (Wc way (x,z)).2])/\Aa w g:=by
 have:way=0\/way=1\/way=2\/way=3\/way=4\/way=5\/way=6\/way=7:=oM;rcases this with rfl|rfl|rfl|rfl|rfl|rfl|rfl|rfl
 ·exact LN w x z a c b d f
 ·exact KN w x z a c b d f
 ·exact JN w x z a c b d f
 ·exact IN w x z a c b d f
 ·exact GN w x z a c b d f
 ·exact FN w x z a c b d f
 ·exact EN w x z a c b d f
 ·exact DN w x z a c b d f
def Ua(ps:LP):Int:=(ps.getD 0 (0,0)).1
def qb(ps:LP):Int:=(ps.getD (ps.length-1) (0,0)).1
def tl w v ps(h:Fa w v ps)(j:0<ps.length):Calls Tryz.prog 86 #[v] w fun e i=>e=.returned (Y O (Ua ps))/\Aa w i:=by
 obtain⟨a,c,rfl⟩:=h.form;obtain⟨⟨x,z⟩,d⟩:∃p,ps[0]?=Z p:=⟨ps[0],by simp⟩;obtain⟨b,o,rfl,k,f,g⟩:=h.at' d;simp only[Nat.zero_mul,Nat.add_zero]at f g;have e:Ua ps=x:=by unfold Ua;rw[gD,d];rfl
 rw[e];clear e d h;generalize ps.length=n at *
 go_in;go_wp2;go_ret;exact⟨rfl,eR _⟩
def Vr w v ps(h:Fa w v ps)(i:0<ps.length):Calls Tryz.prog 87 #[v] w fun e j=>e=.returned (Y O (qb ps))/\Aa w j:=by
 obtain⟨a,c,rfl⟩:=h.form;obtain⟨n,f⟩:∃n,ps.length=n+1:=⟨ps.length-1,by omega⟩;rw[f]at h ⊢;have d:=h.le;rw[f]at d;unfold maxLen at d;obtain⟨⟨x,z⟩,g⟩:∃p,ps[n]?=Z p:=⟨ps[n],by simp⟩;obtain⟨b,o,rfl,m,k,l⟩:=h.at' g;have e:qb ps=x:=by unfold qb;rw[f,Nat.add_sub_cancel,gD,g];rfl
 rw[e];have q:((n+1:Nat):Int)-1=(n:Int):=oM;have r:(n:Int)<((n+1:Nat):Int):=oM;have s:n<=9223372036854775806:=oM;clear e g h f d i;go_in;go_wp2;go_ret;exact⟨rfl,eR _⟩
def nR(w:V)(G:Nat)(g:Nat)(t0 c:M)(W:V):Prop:=∃a b:Nat,t0=Y O a/\c=Y O b/\a<=9223372036854775807/\b<=9223372036854775807/\Nat.gcd a b=G/\g=b/\Aa w W
def zP w(a b:Nat)(k:a<=9223372036854775807)(l:b<=9223372036854775807):Calls Tryz.prog 149 #[Y O a,Y O b] w fun e p=>e=.returned (Y O (Nat.gcd a b:Nat))/\Aa w p:=by
 obtain⟨G,d⟩:=gX (Nat.gcd a b);rw[d];have f:=ka d;clear d;go_in;go_wp2;go_loopg [0,1] b (nR w G)
 case atStart=>exact⟨a,b,rfl,rfl,k,l,f.o,rfl,eR _⟩
 case round =>
  clear k l f;obtain⟨x,y,rfl,rfl,t,o,m,rfl,c⟩:=hrel;have g:=ka m;clear m;by_cases i:gk=0
  ·subst i;go_wp2;go_ret;exact⟨Oo (Kl (by rw[<-g.o];simp)),c⟩
  ·have q:((gk:Int)==0)=false:=by simp;omega
   have r:((gk:Int) != 0)=true:=by simp;omega
   have s:(1:Int)<=(gk:Int):=oM;have j:0<gk:=oM;clear i;go_wp2;go_quiet (fail);go_wp2;go_roundg (x%gk)
   case measure=>exact Nat.mod_lt x j
   case rel =>
    have n:=Nat.mod_lt x j;exact⟨gk,x%gk,rfl,Kl sM,o,by omega,by rw[<-g.o,Nat.gcd_comm x gk,Nat.gcd_rec gk x,Nat.gcd_comm],rfl,c.drewN _⟩
structure Pl where
 name:ByteArray
 shape:LP
 depth:Int
 density:Int
 gx:Int
 gz:Int
 way:Int
 ax:Int
 az:Int
 skin:Int
def nc(p:Pl)(sl:M):Array M:=#[.string p.name,sl,Y O p.depth,Y O p.density,Y O p.gx,Y O p.gz,Y O p.way,Y O p.ax,Y O p.az,Y .u8 p.skin]
def ve(p q:Pl):Bool:=p.skin==q.skin || p.skin==3 || q.skin==3
def Du w p q s t(v:∃a n c,s=J a n c)(x:∃a n c,t=J a n c):Calls Tryz.prog 54 #[I (nc p s),I (nc q t)] w fun e K=>e=.returned (H (ve p q))/\Aa w K:=by
 obtain⟨a,n,c,rfl⟩:=v;obtain⟨R,n',c',rfl⟩:=x;obtain⟨nm,sh,d,de,gx,gz,wy,W,az,f⟩:=p;obtain⟨y,z,d',o,r,u,P,l,m,b⟩:=q;unfold ve nc;dsimp only;by_cases g:f=b
 ·have j:(f==b)=true:=by simpa using g
  rw[j];clear g;go_in;go_wp2;go_ret;exact⟨rfl,eA⟩
 have j:(f==b)=false:=by simpa using g
 rw[j];clear g;by_cases i:f=3
 ·have k:(f==3)=true:=by simpa using i
  rw[k];clear i;go_in;go_wp2;go_ret;exact⟨rfl,eA⟩
 have k:(f==3)=false:=by simpa using i
 rw[k];clear i;go_in;go_wp2;go_ret;exact⟨rfl,eA⟩
def ol(T:TypeId)(k:Nat)(w:V)(cs:List (List M))(e:Ending)(w':V):Prop:=∃v,e=.returned v/\Ka T k w' w.heap.size v cs/\Aa w w'
def uO w(n:Nat)(p:n<=1000000000):Calls Tryz.prog 270 #[J X 0 0,Y O n] w (ol 43 2 w []):=by
 by_cases j:n=0
 ·subst j;go_in;go_wp2;go_ret;exact⟨_,rfl,Ka.nil _ _ _ _,eR _⟩
 ·have m:(1:Int)<=(n:Int):=oM;obtain⟨i,g,d,e,c⟩:=info_parts Ro;have a:(Builtin.firstCells i.size 0 (J X 0 0)).run Tryz.prog w.drew = .ok ([]:List M).toArray w.drew:=run_firstCells_none w.drew i.size 0 0 0;have l:∀ty,(Builtin.append_ #[38,3] ty #[J X 0 0,Y O (n:Int)]).run Tryz.prog w = .ok (J (Z ⟨w.heap.size,0,X⟩) n (grownCap w n 0 43)) (w.drew.alloc (.cells (([]:List M).toArray++Builtin.zeroCells (Value.cells (I #[Y O 0,Y O 0])) n++Builtin.zeroCells (Value.cells (I #[Y O 0,Y O 0])) (grownCap w n 0 43-n)) 43)):=fun ty=>by
   have h:=Lib.run_append_grow_zeros w 38 3 ty 43 i (I #[Y O 0,Y O 0]) O O Tryz.underlying38 Tryz.underlying3 g d X 0 0 [] a n oM (by rw[e];omega) oM oM (by rw[c];omega)
    (growslice_fits oM (by rw[c];omega))
   simpa using h
  have o:=grownCap_ge w n 0 43;have b:=grownCap_le_maxLen w n 0 43 (by unfold maxLen;omega);generalize grownCap w n 0 43=G at *
  have k:G<=9223372036854775807:=by unfold maxLen at b;omega
  have f:=ka b;clear a g d e c b;go_in;go_wp2_with(at_builtin;refine Lib.wpList_append_run _ rfl _ _ _ _ rfl _ _ rfl rfl _ _ (l _) ?_);go_ret;refine⟨_,rfl,⟨by simp,rfl,.inr ⟨w.heap.size,G,_,rfl,nE _,aN w.drew _,by simp,f.o,?_,by simp⟩⟩,eA⟩;simp[Builtin.zeroCells,Value.cells];omega
def vO w(n:Nat)(p:n<=1000000000):Calls Tryz.prog 171 #[J X 0 0,Y O n] w (ol 43 2 w []):=by
 by_cases j:n=0
 ·subst j;go_in;go_wp2;go_ret;exact⟨_,rfl,Ka.nil _ _ _ _,eR _⟩
 ·have m:(1:Int)<=(n:Int):=oM;obtain⟨i,g,d,e,c⟩:=info_parts Ro;have a:(Builtin.firstCells i.size 0 (J X 0 0)).run Tryz.prog w.drew = .ok ([]:List M).toArray w.drew:=run_firstCells_none w.drew i.size 0 0 0;have l:∀ty,(Builtin.append_ #[121,3] ty #[J X 0 0,Y O (n:Int)]).run Tryz.prog w = .ok (J (Z ⟨w.heap.size,0,X⟩) n (grownCap w n 0 43)) (w.drew.alloc (.cells (([]:List M).toArray++Builtin.zeroCells (Value.cells (I #[Y O 0,Y O 0])) n++Builtin.zeroCells (Value.cells (I #[Y O 0,Y O 0])) (grownCap w n 0 43-n)) 43)):=fun ty=>by
   have h:=Lib.run_append_grow_zeros w 121 3 ty 43 i (I #[Y O 0,Y O 0]) O O Tryz.underlying121 Tryz.underlying3 g d X 0 0 [] a n oM (by rw[e];omega) oM oM (by rw[c];omega)
    (growslice_fits oM (by rw[c];omega))
   simpa using h
  have o:=grownCap_ge w n 0 43;have b:=grownCap_le_maxLen w n 0 43 (by unfold maxLen;omega);generalize grownCap w n 0 43=G at *
  have k:G<=9223372036854775807:=by unfold maxLen at b;omega
  have f:=ka b;clear a g d e c b;go_in;go_wp2_with(at_builtin;refine Lib.wpList_append_run _ rfl _ _ _ _ rfl _ _ rfl rfl _ _ (l _) ?_);go_ret;refine⟨_,rfl,⟨by simp,rfl,.inr ⟨w.heap.size,G,_,rfl,nE _,aN w.drew _,by simp,f.o,?_,by simp⟩⟩,eA⟩;simp[Builtin.zeroCells,Value.cells];omega
def gj(T:TypeId)(w:V)(c:List M)(ps:LP):Prop:=∃v,c=[v]/\Fa w v ps
def Gj(a:List LP):Nat:=a.flatten.length
def Ym{a:List LP}{i ps}(h:a[i]?=Z ps):Gj (a.take (i+1))=Gj (a.take i)+ps.length:=by unfold Gj;rw[Uf _ _ _ h,List.flatten_append,lA];simp
def Vn a i:Gj (a.take i)<=Gj a:=by
 unfold Gj
 conv=>rhs;rw[<-List.take_append_drop i a,List.flatten_append,lA]
 omega
def VF(w:V)(a:List LP)(g:Nat)(t3 b:M)(W:V):Prop:=
 ∃i:Nat,i<=a.length/\b=Y O i/\t3=Y O (Gj (a.take i))/\g=a.length-i/\Aa w W
def UF(w:V)(base:Nat)(a:List LP)(g:Nat)(c b:M)(W:V):Prop:=
 ∃i:Nat,i<=a.length/\b=Y O i/\Ka 43 2 W base c ((a.take i).flatten.map pc)/\g=a.length-i/\Aa w W/\base<=W.heap.size
def Qz{T w v}{ps:LP}(h:Sl T 2 PP w v ps):Rd w T 2 v (ps.map pc).length (ps.map pc).flatten:=by
 obtain⟨a,g,j,d,f⟩:=h;have e:a=ps.map pc:=by
  apply List.ext_getElem?;intro i;rw[lP];by_cases k:i<ps.length
  ·have b:a[i]?=Z (a[i]' oM):=gE _;have c:ps[i]?=Z (ps[i]):=gE _;have:=f i _ _ b c;rw[b,c];exact congrArg Z this
  ·rw[List.getElem?_eq_none oM,List.getElem?_eq_none oM];rfl
 subst e;rw[lL];exact d
def pO w v f(h:Sl 38 1 (gj 38) w v f)(ht:Gj f<=1000000000):Calls Tryz.prog 239 #[v] w (ol 43 2 w (f.flatten.map pc)):=by
 obtain⟨a,c,rfl⟩:=h.form;obtain⟨n,hn⟩:=gX f.length;rw[hn]at h ⊢;have af:=h.le;unfold maxLen at af;have av:n<=9223372036854775807:=oM;have r:=ka hn;have Ht:=ka ht;clear hn af ht;have hP:∀{W:V},Aa w W->Sl 38 1 (gj 38) W (J a n c) f:=fun hx=>h.ext (fun _ _ ⟨v,h1,h2⟩=>⟨v,h1,h2.f hx⟩) hx;go_in;go_wp2;go_loopg [3,11] n (VF w f)
 case atStart=>exact⟨0,by omega,rfl,rfl,by rw[r.o];rfl,eR _⟩
 case round =>
  obtain⟨i,hi,rfl,rfl,rfl,hx⟩:=hrel;rw[r.o]at hi;obtain⟨q,hq⟩:=gX (Gj (f.take i));have aw:q<=1000000000:=by rw[<-hq];exact nT (Vn f i) Ht.o
  rw[hq];by_cases am:i<n
  ·obtain⟨ps,l⟩:∃q,f[i]?=Z q:=⟨f[i]'(by rw[r.o];omega),by simp[r.o,am]⟩;obtain⟨b,o,d,rfl,hb,P,⟨v,rfl,hv⟩,hc⟩:=(hP hx).at l;have u:=hc 0 v rfl;simp only[Nat.mul_one,Nat.add_zero]at u;clear hc P;obtain⟨a',c',rfl⟩:=hv.form;have p:=Ym l;rw[hq]at p;obtain⟨m,hm⟩:=gX ps.length;rw[hm]at p u;have au:q+m<=1000000000:=by rw[<-p];exact nT (Vn f (i+1)) Ht.o
   have aj:=ka p;have ao:=hv;have Hm:=ka hm;clear p l hq hv hm ao;go_wp2;go_roundg (n-(i+1))
   case measure=>have:=r.o;omega
   case rel=>exact⟨i+1,by have:=r.o;omega,by go_num,by rw[aj.o];go_num,by rw[r.o],eA⟩
  ·obtain rfl:i=n:=oM;clear hq;go_wp2_with(((go_at_call 270;(with_reducible refine(uO _ q oM).mono ?_);rintro e w1 ⟨v1,rfl,aa,x⟩;obtain⟨a1,c1,rfl⟩:=aa.form;obtain⟨ak,al⟩:=x.cells)));have z:=hx.trans x;obtain⟨W0,rfl⟩:∃W0,W0=wr:=⟨_,rfl⟩;go_loopg [6,27] i (UF w W0.heap.size f)
   case atStart=>exact⟨0,by omega,rfl,by simpa using aa,by rw[r.o];rfl,z,x.size⟩
   case round =>
    clear x z aa ak al;obtain⟨j,hj,rfl,g,rfl,ab,K⟩:=hrel;rw[r.o]at hj;obtain⟨a2,c2,rfl⟩:=g.form;obtain⟨L2,s⟩:=gX (((f.take j).flatten.map pc).length);(have ar:L2<=1000000000:=by rw[<-s,lL];exact nT (Vn f j) Ht.o);rw[s]at g ⊢;have ah:=hx.size;by_cases ag:j<i
    ·obtain⟨ps,l⟩:∃q,f[j]?=Z q:=⟨f[j]'(by rw[r.o];omega),by simp[r.o,ag]⟩;obtain⟨b,o,d,rfl,hb,P,⟨v,rfl,hv⟩,hc⟩:=(hP ab).at l;have u:=hc 0 v rfl;simp only[Nat.mul_one,Nat.add_zero]at u;clear hc P;obtain⟨a',c',rfl⟩:=hv.form;have p:=Ym l;have y:((f.take j).flatten.map pc).length+(ps.map pc).length<=100000000000:=by
      have:=Vn f (j+1);have h9:=Ht.o;rw[p]at this;unfold Gj at this h9;rw[lL,lL];omega
     have ae:(f.take (j+1)).flatten.map pc=(f.take j).flatten.map pc++ps.map pc:=by
      rw[Uf _ _ _ l,List.flatten_append,List.map_append];simp
     have an:=Qz hv;have ai:=ka ae;have aq:=ka s;have ac:=ka y;clear p l ae s y;go_wp2_with(at_builtin;refine Cp (v:=J a2 L2 c2) Ro rfl dM dM Tryz.underlying38 rfl _ _ rfl rfl g rfl (ps.map pc) Nq an pD ac.o K ?_;intro v' w1 t R ap;obtain⟨a3,n3,c3,rfl⟩:=t.i);go_roundg (i-(j+1))
     case measure=>have:=r.o;omega
     case rel =>
      have ad:=Bh R K (fun k hk=>(g.lt k hk).1);exact⟨j+1,by rw[r.o];omega,by go_num,by rw[ai.o];exact t,by rw[r.o],ab.y ad ah,nT K ad.size⟩
    ·obtain rfl:j=i:=oM;(have e:(f.take j).flatten.map pc=f.flatten.map pc:=by rw[lT (by rw[r.o];omega)]);have E:=ka e;clear e s;go_wp2;go_ret;exact⟨_,rfl,by rw[<-E.o];exact g.mono ah,ab⟩
def nF w v f(h:Sl 121 1 (gj 121) w v f)(ht:Gj f<=1000000000):Calls Tryz.prog 104 #[v] w (ol 43 2 w (f.flatten.map pc)):=by
 obtain⟨a,c,rfl⟩:=h.form;obtain⟨n,hn⟩:=gX f.length;rw[hn]at h ⊢;have af:=h.le;unfold maxLen at af;have av:n<=9223372036854775807:=oM;have r:=ka hn;have Ht:=ka ht;clear hn af ht;have hP:∀{W:V},Aa w W->Sl 121 1 (gj 121) W (J a n c) f:=fun hx=>h.ext (fun _ _ ⟨v,h1,h2⟩=>⟨v,h1,h2.f hx⟩) hx;go_in;go_wp2;go_loopg [3,11] n (VF w f)
 case atStart=>exact⟨0,by omega,rfl,rfl,by rw[r.o];rfl,eR _⟩
 case round =>
  obtain⟨i,hi,rfl,rfl,rfl,hx⟩:=hrel;rw[r.o]at hi;obtain⟨q,hq⟩:=gX (Gj (f.take i));have aw:q<=1000000000:=by rw[<-hq];exact nT (Vn f i) Ht.o
  rw[hq];by_cases am:i<n
  ·obtain⟨ps,l⟩:∃q,f[i]?=Z q:=⟨f[i]'(by rw[r.o];omega),by simp[r.o,am]⟩;obtain⟨b,o,d,rfl,hb,P,⟨v,rfl,hv⟩,hc⟩:=(hP hx).at l;have u:=hc 0 v rfl;simp only[Nat.mul_one,Nat.add_zero]at u;clear hc P;obtain⟨a',c',rfl⟩:=hv.form;have p:=Ym l;rw[hq]at p;obtain⟨m,hm⟩:=gX ps.length;rw[hm]at p u;have au:q+m<=1000000000:=by rw[<-p];exact nT (Vn f (i+1)) Ht.o
   have aj:=ka p;have ao:=hv;have Hm:=ka hm;clear p l hq hv hm ao;go_wp2;go_roundg (n-(i+1))
   case measure=>have:=r.o;omega
   case rel=>exact⟨i+1,by have:=r.o;omega,by go_num,by rw[aj.o];go_num,by rw[r.o],eA⟩
  ·obtain rfl:i=n:=oM;clear hq;go_wp2_with(((go_at_call 171;(with_reducible refine(vO _ q oM).mono ?_);rintro e w1 ⟨v1,rfl,aa,x⟩;obtain⟨a1,c1,rfl⟩:=aa.form;obtain⟨ak,al⟩:=x.cells)));have z:=hx.trans x;obtain⟨W0,rfl⟩:∃W0,W0=wr:=⟨_,rfl⟩;go_loopg [6,27] i (UF w W0.heap.size f)
   case atStart=>exact⟨0,by omega,rfl,by simpa using aa,by rw[r.o];rfl,z,x.size⟩
   case round =>
    clear x z aa ak al;obtain⟨j,hj,rfl,g,rfl,ab,K⟩:=hrel;rw[r.o]at hj;obtain⟨a2,c2,rfl⟩:=g.form;obtain⟨L2,s⟩:=gX (((f.take j).flatten.map pc).length);(have ar:L2<=1000000000:=by rw[<-s,lL];exact nT (Vn f j) Ht.o);rw[s]at g ⊢;have ah:=hx.size;by_cases ag:j<i
    ·obtain⟨ps,l⟩:∃q,f[j]?=Z q:=⟨f[j]'(by rw[r.o];omega),by simp[r.o,ag]⟩;obtain⟨b,o,d,rfl,hb,P,⟨v,rfl,hv⟩,hc⟩:=(hP ab).at l;have u:=hc 0 v rfl;simp only[Nat.mul_one,Nat.add_zero]at u;clear hc P;obtain⟨a',c',rfl⟩:=hv.form;have p:=Ym l;have y:((f.take j).flatten.map pc).length+(ps.map pc).length<=100000000000:=by
      have:=Vn f (j+1);have h9:=Ht.o;rw[p]at this;unfold Gj at this h9;rw[lL,lL];omega
     have ae:(f.take (j+1)).flatten.map pc=(f.take j).flatten.map pc++ps.map pc:=by
      rw[Uf _ _ _ l,List.flatten_append,List.map_append];simp
     have an:=Qz hv;have ai:=ka ae;have aq:=ka s;have ac:=ka y;clear p l ae s y;go_wp2_with(at_builtin;refine Cp (v:=J a2 L2 c2) Ro rfl dM dM Tryz.underlying121 rfl _ _ rfl rfl g rfl (ps.map pc) Nq an pD ac.o K ?_;intro v' w1 t R ap;obtain⟨a3,n3,c3,rfl⟩:=t.i);go_roundg (i-(j+1))
     case measure=>have:=r.o;omega
     case rel =>
      have ad:=Bh R K (fun k hk=>(g.lt k hk).1);exact⟨j+1,by rw[r.o];omega,by go_num,by rw[ai.o];exact t,by rw[r.o],ab.y ad ah,nT K ad.size⟩
    ·obtain rfl:j=i:=oM;(have e:(f.take j).flatten.map pc=f.flatten.map pc:=by rw[lT (by rw[r.o];omega)]);have E:=ka e;clear e s;go_wp2;go_ret;exact⟨_,rfl,by rw[<-E.o];exact g.mono ah,ab⟩
def Ve(r:Int):Bool:=!(decide (97<=r)&&decide (r<=122))&&!(decide (48<=r)&&decide (r<=57))
def KH w r:Calls Tryz.prog 203 #[Y .i32 r] w fun e j=>e=.returned (H (Ve r))/\j=w:=by
 unfold Ve;by_cases d:97<=r
 ·have a:decide (97<=r)=true:=by simpa using d
  by_cases f:r<=122
  ·have c:decide (r<=122)=true:=by simpa using f
   go_in;go_wp2;go_ret;exact⟨by simp[a,c],rfl⟩
  ·have c:decide (r<=122)=false:=by simpa using f
   have b:decide (48<=r)=true:=by simp;omega
   have i:decide (r<=57)=false:=by simp;omega
   go_in;go_wp2;go_ret;exact⟨by simp[a,c,b,i],rfl⟩
 ·have a:decide (97<=r)=false:=by simpa using d
  by_cases g:48<=r
  ·have b:decide (48<=r)=true:=by simpa using g
   go_in;go_wp2;go_ret;exact⟨by simp[a,b],rfl⟩
  ·have b:decide (48<=r)=false:=by simpa using g
   go_in;go_wp2;go_ret;exact⟨by simp[a,b],rfl⟩
