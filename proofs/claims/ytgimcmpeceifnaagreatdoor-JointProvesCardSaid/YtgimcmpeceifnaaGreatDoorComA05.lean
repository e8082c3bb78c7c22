import Derived.Test.YtgimcmpeceifnaaGreatDoorComA04
import Derived.Laws.StructEq
import Derived.Deep.RegionLaw
import Derived.Lib.AppendZerosOnto
set_option maxRecDepth 1000000
set_option maxHeartbeats 16000000
set_option linter.all false
open Go.IntKind renaming i64->O
open Go.Value renaming int->Y,agg->I,slice->J,pointer->N,bool->H
open Option renaming some->Z,none->X
open Go renaming World->V,Value->M
namespace Go.Proofs.YtgimcmpeceifnaaGreatDoor.Cop
section
open Go.RowKit Go.Shelf
def ri(m q:Int×Int):Int×Int:=if Fl q m<0 then q else m
def Gf:LP->Int×Int
 | []=>(0,0)
 | p::ps=>ps.foldl ri p
def yE(ps:LP) q(h:ps≠[]):Gf (ps++[q])=ri (Gf ps) q:=by
 cases ps with
 | nil=>exact absurd rfl h
 | cons p ps=>simp[Gf]
def WU(w:V)(ps:LP)(g:Nat)(a:M)(W:V):Prop:=
 ∃i:Nat,1<=i/\i<=ps.length/\a=Y O i/\g=ps.length-i/\Ba w W/\W.heap[w.heap.size]?=Z (.cells #[Y O 0,Y O 0] 91 (0,0))/\
  ∃x z,Gf (ps.take i)=(x,z)/\W.heap[w.heap.size+1]?=Z (.cells #[Y O x,Y O z] 91 (0,0))
def EC w v ps(h:Ia w v ps)(h0:0<ps.length):Calls Tryz.prog 233 #[v,.func (.func 234) #[] #[]] w fun e w'=>e=.returned (I #[Y O (Gf ps).1,Y O (Gf ps).2])/\Ba w w':=by
 obtain⟨a,c,rfl⟩:=h.form;obtain⟨n,hn⟩:=gX ps.length;rw[hn]at h ⊢;have aa:=h.le;unfold maxLen at aa;have ao:0<n:=oM;have ap:(1:Int)<=(n:Int):=oM;have aq:n<=9223372036854775807:=oM;obtain⟨⟨x0,z0⟩,hp⟩:∃p,ps[0]?=Z p:=⟨ps[0],by simp⟩;obtain⟨b,o,rfl,hb,c0,c1⟩:=h.at' hp;simp only[Nat.zero_mul,Nat.add_zero]at c0 c1;have am:b<w.heap.size+1:=oM;have ab:Gf (ps.take 1)=(x0,z0):=by rw[ze _ _ _ hp];rfl
 have ag:=za ab;have f:=za hn;clear hn aa hp h0 ab;go_in;go_wp2;go_loopg [6] (n-1) (WU w ps)
 case atStart =>
  exact⟨1,nE _,by rw[f.o];omega,rfl,by rw[f.o],eA,by rw[tg,if_neg sM];exact mc _ _ _ rfl,x0,z0,ag.o,mc _ _ _ sM⟩
 case round =>
  obtain⟨i,an,hi,rfl,rfl,hx,s,x,z,hv,r⟩:=hrel;rw[f.o]at hi;have r0:=Aa s 0 (Y O 0);have r1:=Aa s 1 (Y O 0);have av:=Za s 0;have aw:=Za s 1;have o0:=Aa r 0 (Y O x);have o1:=Aa r 1 (Y O z);have ar:=Za r 0;have au:=Za r 1;have zr:=Ya s;have zo:=Ya r;have HR:=za s;have HO:=za r;have HV:=za hv;clear s r hv c0 c1;by_cases ak:i<n
  ·obtain⟨⟨u,y⟩,hq⟩:∃q,ps[i]?=Z q:=⟨ps[i]'(by rw[f.o];omega),by simp[f.o,ak]⟩;obtain⟨b',o',e',al,d0,d1⟩:=(h.f hx).at' hq;cases e';have ac:ps.take i≠[]:=by
    intro e;(have h2:(ps.take i).length=0:=by rw[e];rfl);rw[List.length_take,f.o]at h2;omega
   have d:Gf (ps.take (i+1))=ri (x,z) (u,y):=by rw[ze _ _ _ hq,yE _ _ ac,HV.o]
   obtain⟨C,hC⟩:=gX (Fl (u,y) (x,z));unfold ri at d;rw[hC]at d;have R:=za d;have k:=fun W=>JP W u y x z;rw[hC]at k;have m:=za k;clear hq d ac hC k;have p1:(0:Int)<=(i:Int):=oM;have p2:(i:Int)<(n:Int):=oM;by_cases K:C<0
   ·(have ai:decide (C<0)=true:=by simpa using K);have L:=za K;clear K;go_wp2;go_region_held3 (fun W=>W.cell? ⟨b,o+i*2,X⟩=Z (Y O u)/\W.cell? ⟨b,o+i*2+1,X⟩=Z (Y O y)/\W.cell? ⟨w.heap.size+1,0,X⟩=Z (Y O x)/\W.cell? ⟨w.heap.size+1,1,X⟩=Z (Y O z)) ((repeat' (with_reducible refine And.intro ?_ ?_))<;>(first|(go_simp;done)|(refine hx1.d ?_;go_simp;done))) (((go_at_call 234;refine cM (m.o _) ?_;rintro e w1 ⟨rfl,hx1⟩;obtain⟨⟨ah,aj⟩,ad,ae⟩:=Nb w hx1)))
    all_goals go_wp2
    all_goals
     go_roundg (n-(i+1))
     case measure=>have:=f.o;omega
     case rel =>
      have l:Ba wr w1:=(eR wr).drew.trans hx1;have j:=l.e HR.o;have g:=l.e HO.o;have d:=R.o
      first
       | (rw[if_pos L.o]at d;exact⟨i+1,by omega,by rw[f.o];omega,by go_num,by rw[f.o],eA,by rw[bS _ _ _ _ dO,bS _ _ _ _ dO];exact j,u,y,d,Dk g _ _⟩)
       | (rw[if_neg (by have:=L.o;omega)]at d;exact⟨i+1,by omega,by rw[f.o];omega,by go_num,by rw[f.o],eA,j,x,z,d,g⟩)
   ·(have ai:decide (C<0)=false:=by simpa using K);have L:=za K;clear K;go_wp2;go_region_held3 (fun W=>W.cell? ⟨b,o+i*2,X⟩=Z (Y O u)/\W.cell? ⟨b,o+i*2+1,X⟩=Z (Y O y)/\W.cell? ⟨w.heap.size+1,0,X⟩=Z (Y O x)/\W.cell? ⟨w.heap.size+1,1,X⟩=Z (Y O z)) ((repeat' (with_reducible refine And.intro ?_ ?_))<;>(first|(go_simp;done)|(refine hx1.d ?_;go_simp;done))) (((go_at_call 234;refine cM (m.o _) ?_;rintro e w1 ⟨rfl,hx1⟩;obtain⟨⟨ah,aj⟩,ad,ae⟩:=Nb w hx1)))
    all_goals go_wp2
    all_goals
     go_roundg (n-(i+1))
     case measure=>have:=f.o;omega
     case rel =>
      have l:Ba wr w1:=(eR wr).drew.trans hx1;have j:=l.e HR.o;have g:=l.e HO.o;have d:=R.o
      first
       | (rw[if_pos L.o]at d;exact⟨i+1,by omega,by rw[f.o];omega,by go_num,by rw[f.o],eA,by rw[bS _ _ _ _ dO,bS _ _ _ _ dO];exact j,u,y,d,Dk g _ _⟩)
       | (rw[if_neg (by have:=L.o;omega)]at d;exact⟨i+1,by omega,by rw[f.o];omega,by go_num,by rw[f.o],eA,j,x,z,d,g⟩)
  ·obtain rfl:i=n:=oM;have t:=HV.o;rw[lT (by rw[f.o];omega)]at t;have af:=za t;clear t;go_wp2;refine bR (v:=I #[Y O x,Y O z]) (by simp[results,Tryz.results233,go_sem,r0,r1]) rfl ⟨?_,eA⟩;rw[af.o]
def se(ps:LP):Bool:=!(ps.any Bf)&&Va ps&&(Ta ps==(0,0))&&(Gf ps==ps.getD 0 (0,0))
def IF{ps}(h:ps.any Bf=true):se ps=false:=by simp[se,h]
def ow{ps}(h:Va ps=false):se ps=false:=by simp[se,h]
def DB{ps}(h:ps.any Bf=false):qg 2000 ps:=by intro p b;have a:=(List.any_eq_false.1 h) p b;simp[Bf,Ra]at a;unfold Bd;omega
def qg.mono{j k ps}(h:qg j ps)(a:j<=k):qg k ps:=fun p b=>⟨(h p b).1.mono a,(h p b).2.mono a⟩
def Pz{ps}(h:Va ps=true):3<=ps.length/\ps.length<=12:=by unfold Va at h;rw[Bool.and_eq_true]at h;have:=h.1;simp[Ra]at this;omega
def RR w v ps(h:Ia w v ps):Calls Tryz.prog 197 #[v] w fun e w'=>e=.returned (H (se ps))/\Ba w w':=by
 obtain⟨a,c,rfl⟩:=h.form;obtain⟨n,hn⟩:=gX ps.length;rw[hn]at h ⊢;have i:=fun W (hW:Ba w W)=>TP W (J a n c) ps (h.f hW);by_cases hf:ps.any Bf=true
 ·rw[IF hf];rw[hf]at i;have g:=za i;clear i hf;go_in;go_wp2_with(((go_at_call 230;refine cM (g.o _ eA) ?_;rintro e w1 ⟨rfl,d⟩)));go_ret;exact⟨rfl,eA⟩
 have K:ps.any Bf=false:=by simpa using hf
 have aj:=DB K;rw[K]at i;have g:=za i;have u:=fun W (hW:Ba w W)=>rS W (J a n c) ps (h.f hW) (aj.mono dM);by_cases hc:Va ps=true
 ·have ao:=Pz hc;have h0:0<ps.length:=oM;rw[hc]at u;have q:=za u;have al:=fun W (hW:Ba w W)=>AE W (J a n c) ps (h.f hW) h0;have an:=fun W (hW:Ba w W)=>EC W (J a n c) ps (h.f hW) h0;obtain⟨⟨lx,lz⟩,hl⟩:∃p,Ta ps=p:=⟨_,rfl⟩;obtain⟨⟨t,mz⟩,hm⟩:∃p,Gf ps=p:=⟨_,rfl⟩;obtain⟨⟨m,r⟩,hp⟩:∃p,ps[0]?=Z p:=⟨ps[0],by simp⟩;rw[hl]at al;rw[hm]at an;have ap:se ps=((decide (lx=0)&&decide (lz=0))&&(decide (t=m)&&decide (mz=r))):=by
   unfold se;rw[K,hc,hl,hm,gD,hp];rw[Bool.eq_iff_iff];simp[and_assoc]
  rw[ap];have x:=za al;have ag:=za an;obtain⟨b,o,rfl,hb,c0,c1⟩:=h.at' hp;simp only[Nat.zero_mul,Nat.add_zero]at c0 c1;have au:(0:Int)<(n:Int):=by rw[hn]at h0;omega
  clear al an u i hf K hc hl hm hp ap hn ao aj h0;by_cases am:lx=0/\lz=0
  ·obtain⟨rfl,rfl⟩:=am;have av:0<n:=oM;have ah:t=m/\mz=r->Calls Tryz.prog 197 #[J (Z ⟨b,o,X⟩) n c] w fun e w'=>e=.returned (H ((decide ((0:Int)=0)&&decide ((0:Int)=0))&&(decide (t=m)&&decide (mz=r))))/\Ba w w':=by
    intro j;have f1:(t==m)=true:=(by simpa using j.1);have f2:(mz==r)=true:=(by simpa using j.2);have g1:(decide (t=m)&&decide (mz=r))=true:=(by simp[j.1,j.2]);rw[g1];clear g1 j;go_in;go_wp2_with(first|((go_at_call 230;refine cM (g.o _ eA) ?_;rintro e w1 ⟨rfl,d⟩;obtain⟨ac,ae⟩:=d.cells;(have l:=d.lt hb)))|((go_at_call 231;refine cM (q.o _ eA) ?_;rintro e w2 ⟨rfl,f⟩;obtain⟨ad,af⟩:=f.cells;(have s:=f.lt l))));have ab:b<w2.heap.size:=s;go_region_held3 (fun W=>W.cell? ⟨b,o,X⟩=Z (Y O m)/\W.cell? ⟨b,o+1,X⟩=Z (Y O r)) ((repeat' (with_reducible refine And.intro ?_ ?_))<;>(first|(go_simp;done)|(refine d.d ?_;go_simp;done))) (first|((go_at_call 232;refine cM (x.o _ eA) ?_;rintro e w3 ⟨rfl,k⟩;obtain⟨y,L⟩:=k.cells;(try simp only[Ig,Gg,Yb]at y L);(have aq:=k.lt ab)))|((go_at_call 233;refine cM (ag.o _ eA) ?_;rintro e w4 ⟨rfl,aa⟩;obtain⟨z,R⟩:=aa.cells;(try simp only[Ig,Gg,Yb]at z R))))
    all_goals go_wp2
    go_ret;exact⟨rfl,eA⟩
   have ai:t=m/\mz≠r->Calls Tryz.prog 197 #[J (Z ⟨b,o,X⟩) n c] w fun e w'=>e=.returned (H ((decide ((0:Int)=0)&&decide ((0:Int)=0))&&(decide (t=m)&&decide (mz=r))))/\Ba w w':=by
    intro j;have f1:(t==m)=true:=(by simpa using j.1);have f2:(mz==r)=false:=(by simpa using j.2);have g1:(decide (t=m)&&decide (mz=r))=false:=(by simp[j.2]);rw[g1];clear g1 j;go_in;go_wp2_with(first|((go_at_call 230;refine cM (g.o _ eA) ?_;rintro e w1 ⟨rfl,d⟩;obtain⟨ac,ae⟩:=d.cells;(have l:=d.lt hb)))|((go_at_call 231;refine cM (q.o _ eA) ?_;rintro e w2 ⟨rfl,f⟩;obtain⟨ad,af⟩:=f.cells;(have s:=f.lt l))));have ab:b<w2.heap.size:=s;go_region_held3 (fun W=>W.cell? ⟨b,o,X⟩=Z (Y O m)/\W.cell? ⟨b,o+1,X⟩=Z (Y O r)) ((repeat' (with_reducible refine And.intro ?_ ?_))<;>(first|(go_simp;done)|(refine d.d ?_;go_simp;done))) (first|((go_at_call 232;refine cM (x.o _ eA) ?_;rintro e w3 ⟨rfl,k⟩;obtain⟨y,L⟩:=k.cells;(try simp only[Ig,Gg,Yb]at y L);(have aq:=k.lt ab)))|((go_at_call 233;refine cM (ag.o _ eA) ?_;rintro e w4 ⟨rfl,aa⟩;obtain⟨z,R⟩:=aa.cells;(try simp only[Ig,Gg,Yb]at z R))))
    all_goals go_wp2
    go_ret;exact⟨rfl,eA⟩
   have ar:t≠m->Calls Tryz.prog 197 #[J (Z ⟨b,o,X⟩) n c] w fun e w'=>e=.returned (H ((decide ((0:Int)=0)&&decide ((0:Int)=0))&&(decide (t=m)&&decide (mz=r))))/\Ba w w':=by
    intro j;have f1:(t==m)=false:=(by simpa using j);have g1:(decide (t=m)&&decide (mz=r))=false:=(by simp[j]);rw[g1];clear g1 j;go_in;go_wp2_with(first|((go_at_call 230;refine cM (g.o _ eA) ?_;rintro e w1 ⟨rfl,d⟩;obtain⟨ac,ae⟩:=d.cells;(have l:=d.lt hb)))|((go_at_call 231;refine cM (q.o _ eA) ?_;rintro e w2 ⟨rfl,f⟩;obtain⟨ad,af⟩:=f.cells;(have s:=f.lt l))));have ab:b<w2.heap.size:=s;go_region_held3 (fun W=>W.cell? ⟨b,o,X⟩=Z (Y O m)/\W.cell? ⟨b,o+1,X⟩=Z (Y O r)) ((repeat' (with_reducible refine And.intro ?_ ?_))<;>(first|(go_simp;done)|(refine d.d ?_;go_simp;done))) (first|((go_at_call 232;refine cM (x.o _ eA) ?_;rintro e w3 ⟨rfl,k⟩;obtain⟨y,L⟩:=k.cells;(try simp only[Ig,Gg,Yb]at y L);(have aq:=k.lt ab)))|((go_at_call 233;refine cM (ag.o _ eA) ?_;rintro e w4 ⟨rfl,aa⟩;obtain⟨z,R⟩:=aa.cells;(try simp only[Ig,Gg,Yb]at z R))))
    all_goals go_wp2
    go_ret;exact⟨rfl,eA⟩
   by_cases e1:t=m
   ·by_cases e2:mz=r
    ·exact ah ⟨e1,e2⟩
    ·exact ai ⟨e1,e2⟩
   ·exact ar e1
  ·have hz:(decide (lx=0)&&decide (lz=0))=false:=by
    rw[Bool.and_eq_false_iff];by_cases h1:lx=0
    ·right;simp;exact fun h2=>am ⟨h1,h2⟩
    ·left;simpa using h1
   rw[hz];clear hz;rw[Bool.false_and];have ah:lx=0/\lz≠0->Calls Tryz.prog 197 #[J (Z ⟨b,o,X⟩) n c] w fun e w'=>e=.returned (H false)/\Ba w w':=by
    intro j;have f1:(lx==0)=true:=(by simpa using j.1);have f2:(lz==0)=false:=(by simpa using j.2);clear j;go_in;go_wp2_with(first|((go_at_call 230;refine cM (g.o _ eA) ?_;rintro e w1 ⟨rfl,d⟩;obtain⟨ac,ae⟩:=d.cells;(have l:=d.lt hb)))|((go_at_call 231;refine cM (q.o _ eA) ?_;rintro e w2 ⟨rfl,f⟩;obtain⟨ad,af⟩:=f.cells;(have s:=f.lt l))))
    first|(go_region_with (((go_at_call 232;refine cM (x.o _ eA) ?_;rintro e w3 ⟨rfl,k⟩))))|fail
    all_goals go_wp2
    all_goals go_ret
    all_goals exact⟨rfl,eA⟩
   have ai:lx≠0->Calls Tryz.prog 197 #[J (Z ⟨b,o,X⟩) n c] w fun e w'=>e=.returned (H false)/\Ba w w':=by
    intro j;have f1:(lx==0)=false:=(by simpa using j);clear j;go_in;go_wp2_with(first|((go_at_call 230;refine cM (g.o _ eA) ?_;rintro e w1 ⟨rfl,d⟩;obtain⟨ac,ae⟩:=d.cells;(have l:=d.lt hb)))|((go_at_call 231;refine cM (q.o _ eA) ?_;rintro e w2 ⟨rfl,f⟩;obtain⟨ad,af⟩:=f.cells;(have s:=f.lt l))))
    first|(go_region_with (((go_at_call 232;refine cM (x.o _ eA) ?_;rintro e w3 ⟨rfl,k⟩))))|fail
    all_goals go_wp2
    all_goals go_ret
    all_goals exact⟨rfl,eA⟩
   by_cases e1:lx=0
   ·exact ah ⟨e1,fun h2=>am ⟨e1,h2⟩⟩
   ·exact ai e1
 ·have ak:Va ps=false:=by simpa using hc
  rw[ow ak];rw[ak]at u;have q:=za u;clear u hc ak i hf K aj;go_in;go_wp2_with(first|((go_at_call 230;refine cM (g.o _ eA) ?_;rintro e w1 ⟨rfl,d⟩))|((go_at_call 231;refine cM (q.o _ eA) ?_;rintro e w2 ⟨rfl,f⟩)));go_ret;exact⟨rfl,eA⟩
def SD w x z(a:Bd 1000000 x)(b:Bd 1000000 z):Calls Tryz.prog 344 #[I #[Y O x,Y O z]] w fun e c=>e=.returned (I #[Y O x,Y O z])/\Ba w c:=by obtain⟨d,f⟩:=a;obtain⟨g,i⟩:=b;have j:IntKind.i64.wrap (-x) = -x:=iW _ ⟨by omega,by omega⟩;have k:IntKind.i64.wrap (-z) = -z:=iW _ ⟨by omega,by omega⟩;go_in;go_wp2;exact bR (v:=I #[Y O x,Y O z]) (by simp[results,Tryz.results344,go_sem]) rfl ⟨rfl,eA⟩
def RD w x z(a:Bd 1000000 x)(b:Bd 1000000 z):Calls Tryz.prog 345 #[I #[Y O x,Y O z]] w fun e c=>e=.returned (I #[Y O (-z),Y O x])/\Ba w c:=by obtain⟨d,f⟩:=a;obtain⟨g,i⟩:=b;have j:IntKind.i64.wrap (-x) = -x:=iW _ ⟨by omega,by omega⟩;have k:IntKind.i64.wrap (-z) = -z:=iW _ ⟨by omega,by omega⟩;go_in;go_wp2;exact bR (v:=I #[Y O (-z),Y O x]) (by simp[results,Tryz.results345,go_sem]) rfl ⟨rfl,eA⟩
def QD w x z(a:Bd 1000000 x)(b:Bd 1000000 z):Calls Tryz.prog 346 #[I #[Y O x,Y O z]] w fun e c=>e=.returned (I #[Y O (-x),Y O (-z)])/\Ba w c:=by obtain⟨d,f⟩:=a;obtain⟨g,i⟩:=b;have j:IntKind.i64.wrap (-x) = -x:=iW _ ⟨by omega,by omega⟩;have k:IntKind.i64.wrap (-z) = -z:=iW _ ⟨by omega,by omega⟩;go_in;go_wp2;exact bR (v:=I #[Y O (-x),Y O (-z)]) (by simp[results,Tryz.results346,go_sem]) rfl ⟨rfl,eA⟩
def PD w x z(a:Bd 1000000 x)(b:Bd 1000000 z):Calls Tryz.prog 347 #[I #[Y O x,Y O z]] w fun e c=>e=.returned (I #[Y O z,Y O (-x)])/\Ba w c:=by obtain⟨d,f⟩:=a;obtain⟨g,i⟩:=b;have j:IntKind.i64.wrap (-x) = -x:=iW _ ⟨by omega,by omega⟩;have k:IntKind.i64.wrap (-z) = -z:=iW _ ⟨by omega,by omega⟩;go_in;go_wp2;exact bR (v:=I #[Y O z,Y O (-x)]) (by simp[results,Tryz.results347,go_sem]) rfl ⟨rfl,eA⟩
def Uc(n:Int):Bool:=decide (n < -100000) || decide (100000<n)
def io w n:Calls Tryz.prog 152 #[Y O n] w fun e b=>e=.returned (H (Uc n))/\Ba w b:=by
 unfold Uc;by_cases h:n < -100000
 ·have a:decide (n < -100000)=true:=by simpa using h
  go_in;go_wp2;go_ret;exact⟨by simp[a],eA⟩
 ·have a:decide (n < -100000)=false:=by simpa using h
  go_in;go_wp2;go_ret;exact⟨by simp[a],eA⟩
def ZE w n:Calls Tryz.prog 152 #[Y O n] w fun e b=>e=.returned (H (Uc n))/\b=w:=by
 unfold Uc;by_cases h:n < -100000
 ·have a:decide (n < -100000)=true:=by simpa using h
  go_in;go_wp2;go_ret;exact⟨by simp[a],rfl⟩
 ·have a:decide (n < -100000)=false:=by simpa using h
  go_in;go_wp2;go_ret;exact⟨by simp[a],rfl⟩
def pP w v ps x z(h:Ia w v ps):Calls Tryz.prog 245 #[v,I #[Y O x,Y O z]] w fun e w'=>e=.returned (Y O (Pc (fun p=>(x,z)==p) ps))/\Ba w w':=by
 obtain⟨a,c,rfl⟩:=h.form;obtain⟨n,hn⟩:=gX ps.length;rw[hn]at h ⊢;have K:=h.le;unfold maxLen at K;have ab:n<=9223372036854775807:=oM;obtain⟨F,hF⟩:∃F:Int×Int->Bool,F=fun p=>(x,z)==p:=⟨_,rfl⟩;rw[<-hF];have HF:=za hF;have f:=za hn;clear hn K hF;go_in;go_wp2;go_loopg [8] n (fun g t8 W=>nH w F ps g t8 W/\W.cell? ⟨w.heap.size,0,X⟩=Z (Y O x)/\W.cell? ⟨w.heap.size,1,X⟩=Z (Y O z))
 case atStart=>exact⟨⟨0,by omega,rfl,by rw[f.o];rfl,eA,fun j y u=>by omega⟩,by go_simp,by go_simp⟩
 case round =>
  obtain⟨⟨i,hi,rfl,rfl,hx,l⟩,k0,k1⟩:=hrel;rw[f.o]at hi;have d:=za l;clear l;by_cases aa:i<n
  ·obtain⟨q,hq⟩:∃q,ps[i]?=Z q:=⟨ps[i]'(by rw[f.o];omega),by simp[f.o,aa]⟩;obtain⟨L,R⟩:=q;obtain⟨b,o,rfl,hb,d0,d1⟩:=(h.f hx).at' hq;have Hq:=za hq;clear hq;have p1:(0:Int)<=(i:Int):=oM;have p2:(i:Int)<(n:Int):=oM;by_cases m:x=L
   ·(have f1:(x==L)=true:=by simpa using m);by_cases s:z=R
    ·(have f2:(z==R)=true:=by simpa using s);have e:Pc F ps=(i:Int):=pp Hq.o (by rw[HF.o];simp[m,s]) d.o;have E:=za e;clear e m s;go_wp2;go_quiet (fail);go_wp2;go_ret;exact⟨by rw[E.o];rfl,eA⟩
    ·(have f2:(z==R)=false:=by simpa using s);(have t:F (L,R)=false:=by rw[HF.o];simp[s]);have G1:=za t;clear m s t;go_wp2;go_quiet (fail);go_wp2;go_roundg (n-(i+1))
     case measure=>have:=f.o;omega
     case rel =>
      refine⟨⟨i+1,by have:=f.o;omega,by go_num,by rw[f.o],eA,fun j y u k=>?_⟩,by go_simp,by go_simp⟩;by_cases r:j=i
      ·subst r;rw[Hq.o]at k;cases k;exact G1.o
      ·exact d.o j y oM k
   ·(have f1:(x==L)=false:=by simpa using m);(have t:F (L,R)=false:=by rw[HF.o];simp[m]);have G1:=za t;clear m t;go_wp2;go_quiet (fail);go_wp2;go_roundg (n-(i+1))
    case measure=>have:=f.o;omega
    case rel =>
     refine⟨⟨i+1,by have:=f.o;omega,by go_num,by rw[f.o],eA,fun j y u k=>?_⟩,by go_simp,by go_simp⟩;by_cases r:j=i
     ·subst r;rw[Hq.o]at k;cases k;exact G1.o
     ·exact d.o j y oM k
  ·obtain rfl:i=n:=oM;have e:Pc F ps = -1:=Zo (fun j y u k=>d.o j y (by rw[f.o]at u;exact u) k);have E:=za e;clear e;go_wp2;go_ret;exact⟨by rw[E.o];rfl,hx⟩
def Gw(w:V):Prop:=0<w.heap.size/\w.cell? ⟨0,0,X⟩=Z (.func (.func 344) #[] #[])/\w.cell? ⟨0,1,X⟩=Z (.func (.func 345) #[] #[])/\w.cell? ⟨0,2,X⟩=Z (.func (.func 346) #[] #[])/\w.cell? ⟨0,3,X⟩=Z (.func (.func 347) #[] #[])
def Gw.ext{w w'}(h:Gw w)(k:Ba w w'):Gw w':=by obtain⟨a,b,c,d,e⟩:=h;exact⟨k.lt a,k.d b,k.d c,k.d d,k.d e⟩
def Sc(way:Int)(p:Int×Int):Int×Int:=
 let q:=if 3<way then (-p.1,p.2)else p
 if way%4=0 then q else if way%4=1 then (-q.2,q.1)else if way%4=2 then (-q.1,-q.2)else (q.2,-q.1)
def uR w x z c(p:w.cell? ⟨c,0,X⟩=Z (Y O 0))(o:Gw w)(f:Bd 1000000 x)(g:Bd 1000000 z):Calls Tryz.prog 202 #[I #[Y O x,Y O z],N (Z ⟨c,0,X⟩)] w fun e q=>e=.returned (I #[Y O x,Y O z])/\Ba w q:=by
 obtain⟨u,j,k,l,m⟩:=o;have HX:=za f;have i:=za g;have L:c<w.heap.size:=World.block_lt_of_cell? w _ p;have t:c<w.heap.size+1:=oM;have s:0<w.heap.size+1:=oM;have y:w.cell? ⟨0,0,X⟩=Z (.func (.func 344) #[] #[]):=by assumption
 clear f g j k l m;go_in;go_wp2
 first|(go_region_with (((go_at_call 344;(with_reducible refine(SD _ x z HX.o i.o).mono ?_);rintro e K ⟨rfl,b⟩;obtain⟨a,d⟩:=b.cells;(try simp only[Ig,Gg,Yb]at a d);have r:=b.lt (n:=w.heap.size+1) (by go_simp)))))|fail
 all_goals go_wp2
 all_goals exact bR (v:=I #[Y O x,Y O z]) (by simp[results,Tryz.results202,go_sem,a,r]) rfl ⟨rfl,eA⟩
def tR w x z c(p:w.cell? ⟨c,0,X⟩=Z (Y O 1))(o:Gw w)(f:Bd 1000000 x)(g:Bd 1000000 z):Calls Tryz.prog 202 #[I #[Y O x,Y O z],N (Z ⟨c,0,X⟩)] w fun e q=>e=.returned (I #[Y O (-z),Y O x])/\Ba w q:=by
 obtain⟨u,j,k,l,m⟩:=o;have HX:=za f;have i:=za g;have L:c<w.heap.size:=World.block_lt_of_cell? w _ p;have t:c<w.heap.size+1:=oM;have s:0<w.heap.size+1:=oM;have y:w.cell? ⟨0,1,X⟩=Z (.func (.func 345) #[] #[]):=by assumption
 clear f g j k l m;go_in;go_wp2
 first|(go_region_with (((go_at_call 345;(with_reducible refine(RD _ x z HX.o i.o).mono ?_);rintro e K ⟨rfl,b⟩;obtain⟨a,d⟩:=b.cells;(try simp only[Ig,Gg,Yb]at a d);have r:=b.lt (n:=w.heap.size+1) (by go_simp)))))|fail
 all_goals go_wp2
 all_goals exact bR (v:=I #[Y O (-z),Y O x]) (by simp[results,Tryz.results202,go_sem,a,r]) rfl ⟨rfl,eA⟩
def sR w x z c(p:w.cell? ⟨c,0,X⟩=Z (Y O 2))(o:Gw w)(f:Bd 1000000 x)(g:Bd 1000000 z):Calls Tryz.prog 202 #[I #[Y O x,Y O z],N (Z ⟨c,0,X⟩)] w fun e q=>e=.returned (I #[Y O (-x),Y O (-z)])/\Ba w q:=by
 obtain⟨u,j,k,l,m⟩:=o;have HX:=za f;have i:=za g;have L:c<w.heap.size:=World.block_lt_of_cell? w _ p;have t:c<w.heap.size+1:=oM;have s:0<w.heap.size+1:=oM;have y:w.cell? ⟨0,2,X⟩=Z (.func (.func 346) #[] #[]):=by assumption
 clear f g j k l m;go_in;go_wp2
 first|(go_region_with (((go_at_call 346;(with_reducible refine(QD _ x z HX.o i.o).mono ?_);rintro e K ⟨rfl,b⟩;obtain⟨a,d⟩:=b.cells;(try simp only[Ig,Gg,Yb]at a d);have r:=b.lt (n:=w.heap.size+1) (by go_simp)))))|fail
 all_goals go_wp2
 all_goals exact bR (v:=I #[Y O (-x),Y O (-z)]) (by simp[results,Tryz.results202,go_sem,a,r]) rfl ⟨rfl,eA⟩
def rR w x z c(p:w.cell? ⟨c,0,X⟩=Z (Y O 3))(o:Gw w)(f:Bd 1000000 x)(g:Bd 1000000 z):Calls Tryz.prog 202 #[I #[Y O x,Y O z],N (Z ⟨c,0,X⟩)] w fun e q=>e=.returned (I #[Y O z,Y O (-x)])/\Ba w q:=by
 obtain⟨u,j,k,l,m⟩:=o;have HX:=za f;have i:=za g;have L:c<w.heap.size:=World.block_lt_of_cell? w _ p;have t:c<w.heap.size+1:=oM;have s:0<w.heap.size+1:=oM;have y:w.cell? ⟨0,3,X⟩=Z (.func (.func 347) #[] #[]):=by assumption
 clear f g j k l m;go_in;go_wp2
 first|(go_region_with (((go_at_call 347;(with_reducible refine(PD _ x z HX.o i.o).mono ?_);rintro e K ⟨rfl,b⟩;obtain⟨a,d⟩:=b.cells;(try simp only[Ig,Gg,Yb]at a d);have r:=b.lt (n:=w.heap.size+1) (by go_simp)))))|fail
 all_goals go_wp2
 all_goals exact bR (v:=I #[Y O z,Y O (-x)]) (by simp[results,Tryz.results202,go_sem,a,r]) rfl ⟨rfl,eA⟩
def qR w x z d(q:w.cell? ⟨d,0,X⟩=Z (Y O 4))(p:Gw w)(g:Bd 1000000 x)(i:Bd 1000000 z):Calls Tryz.prog 202 #[I #[Y O x,Y O z],N (Z ⟨d,0,X⟩)] w fun e r=>e=.returned (I #[Y O (-x),Y O z])/\Ba w r:=by
 obtain⟨y,k,l,m,o⟩:=p;have b:Bd 1000000 (-x):=by unfold Bd at *;omega
 have HX:=za b;have j:=za i;have W:d<w.heap.size:=World.block_lt_of_cell? w _ q;have u:d<w.heap.size+1:=oM;have t:0<w.heap.size+1:=oM;have K:w.cell? ⟨0,0,X⟩=Z (.func (.func 344) #[] #[]):=by assumption
 have R:IntKind.i64.wrap (-x) = -x:=by unfold Bd at g;exact iW _ ⟨by omega,by omega⟩
 clear g i k l m o b;go_in;go_wp2
 first|(go_region_with (((go_at_call 344;(with_reducible refine(SD _ (-x) z HX.o j.o).mono ?_);rintro e L ⟨rfl,c⟩;obtain⟨a,f⟩:=c.cells;(try simp only[Ig,Gg,Yb]at a f);have s:=c.lt (n:=w.heap.size+1) (by go_simp)))))|fail
 all_goals go_wp2
 all_goals exact bR (v:=I #[Y O (-x),Y O z]) (by simp[results,Tryz.results202,go_sem,a,s]) rfl ⟨rfl,eA⟩
def pR w x z d(q:w.cell? ⟨d,0,X⟩=Z (Y O 5))(p:Gw w)(g:Bd 1000000 x)(i:Bd 1000000 z):Calls Tryz.prog 202 #[I #[Y O x,Y O z],N (Z ⟨d,0,X⟩)] w fun e r=>e=.returned (I #[Y O (-z),Y O (-x)])/\Ba w r:=by
 obtain⟨y,k,l,m,o⟩:=p;have b:Bd 1000000 (-x):=by unfold Bd at *;omega
 have HX:=za b;have j:=za i;have W:d<w.heap.size:=World.block_lt_of_cell? w _ q;have u:d<w.heap.size+1:=oM;have t:0<w.heap.size+1:=oM;have K:w.cell? ⟨0,1,X⟩=Z (.func (.func 345) #[] #[]):=by assumption
 have R:IntKind.i64.wrap (-x) = -x:=by unfold Bd at g;exact iW _ ⟨by omega,by omega⟩
 clear g i k l m o b;go_in;go_wp2
 first|(go_region_with (((go_at_call 345;(with_reducible refine(RD _ (-x) z HX.o j.o).mono ?_);rintro e L ⟨rfl,c⟩;obtain⟨a,f⟩:=c.cells;(try simp only[Ig,Gg,Yb]at a f);have s:=c.lt (n:=w.heap.size+1) (by go_simp)))))|fail
 all_goals go_wp2
 all_goals exact bR (v:=I #[Y O (-z),Y O (-x)]) (by simp[results,Tryz.results202,go_sem,a,s]) rfl ⟨rfl,eA⟩
def ZR w x z d(q:w.cell? ⟨d,0,X⟩=Z (Y O 6))(p:Gw w)(g:Bd 1000000 x)(i:Bd 1000000 z):Calls Tryz.prog 202 #[I #[Y O x,Y O z],N (Z ⟨d,0,X⟩)] w fun e r=>e=.returned (I #[Y O (- -x),Y O (-z)])/\Ba w r:=by
 obtain⟨y,k,l,m,o⟩:=p;have b:Bd 1000000 (-x):=by unfold Bd at *;omega
 have HX:=za b;have j:=za i;have W:d<w.heap.size:=World.block_lt_of_cell? w _ q;have u:d<w.heap.size+1:=oM;have t:0<w.heap.size+1:=oM;have K:w.cell? ⟨0,2,X⟩=Z (.func (.func 346) #[] #[]):=by assumption
 have R:IntKind.i64.wrap (-x) = -x:=by unfold Bd at g;exact iW _ ⟨by omega,by omega⟩
 clear g i k l m o b;go_in;go_wp2
 first|(go_region_with (((go_at_call 346;(with_reducible refine(QD _ (-x) z HX.o j.o).mono ?_);rintro e L ⟨rfl,c⟩;obtain⟨a,f⟩:=c.cells;(try simp only[Ig,Gg,Yb]at a f);have s:=c.lt (n:=w.heap.size+1) (by go_simp)))))|fail
 all_goals go_wp2
 all_goals exact bR (v:=I #[Y O (- -x),Y O (-z)]) (by simp[results,Tryz.results202,go_sem,a,s]) rfl ⟨rfl,eA⟩
def YR w x z d(q:w.cell? ⟨d,0,X⟩=Z (Y O 7))(p:Gw w)(g:Bd 1000000 x)(i:Bd 1000000 z):Calls Tryz.prog 202 #[I #[Y O x,Y O z],N (Z ⟨d,0,X⟩)] w fun e r=>e=.returned (I #[Y O z,Y O (- -x)])/\Ba w r:=by
 obtain⟨y,k,l,m,o⟩:=p;have b:Bd 1000000 (-x):=by unfold Bd at *;omega
 have HX:=za b;have j:=za i;have W:d<w.heap.size:=World.block_lt_of_cell? w _ q;have u:d<w.heap.size+1:=oM;have t:0<w.heap.size+1:=oM;have K:w.cell? ⟨0,3,X⟩=Z (.func (.func 347) #[] #[]):=by assumption
 have R:IntKind.i64.wrap (-x) = -x:=by unfold Bd at g;exact iW _ ⟨by omega,by omega⟩
 clear g i k l m o b;go_in;go_wp2
 first|(go_region_with (((go_at_call 347;(with_reducible refine(PD _ (-x) z HX.o j.o).mono ?_);rintro e L ⟨rfl,c⟩;obtain⟨a,f⟩:=c.cells;(try simp only[Ig,Gg,Yb]at a f);have s:=c.lt (n:=w.heap.size+1) (by go_simp)))))|fail
 all_goals go_wp2
 all_goals exact bR (v:=I #[Y O z,Y O (- -x)]) (by simp[results,Tryz.results202,go_sem,a,s]) rfl ⟨rfl,eA⟩
def Oy w x z way a(c:w.cell? ⟨a,0,X⟩=Z (Y O way))(i:0<=way)(j:way<=7)(b:Gw w)(d:Bd 1000000 x)(f:Bd 1000000 z):Calls Tryz.prog 202 #[I #[Y O x,Y O z],N (Z ⟨a,0,X⟩)] w fun e g=>e=.returned (I #[Y O (Sc way (x,z)).1,Y O (Sc way (x,z)).2])/\Ba w g:=by
 have:way=0\/way=1\/way=2\/way=3\/way=4\/way=5\/way=6\/way=7:=oM;rcases this with rfl|rfl|rfl|rfl|rfl|rfl|rfl|rfl
 ·exact uR w x z a c b d f
 ·exact tR w x z a c b d f
 ·exact sR w x z a c b d f
 ·exact rR w x z a c b d f
 ·exact qR w x z a c b d f
 ·exact pR w x z a c b d f
 ·exact ZR w x z a c b d f
 ·exact YR w x z a c b d f
def ub(ps:LP):Int:=(ps.getD 0 (0,0)).1
def Wb(ps:LP):Int:=(ps.getD (ps.length-1) (0,0)).1
def Yp w v ps(h:Ia w v ps)(j:0<ps.length):Calls Tryz.prog 157 #[v] w fun e i=>e=.returned (Y O (ub ps))/\Ba w i:=by
 obtain⟨a,c,rfl⟩:=h.form;obtain⟨⟨x,z⟩,d⟩:∃p,ps[0]?=Z p:=⟨ps[0],by simp⟩;obtain⟨b,o,rfl,k,f,g⟩:=h.at' d;simp only[Nat.zero_mul,Nat.add_zero]at f g;have e:ub ps=x:=by unfold ub;rw[gD,d];rfl
 rw[e];clear e d h;generalize ps.length=n at *
 go_in;go_wp2;go_ret;exact⟨rfl,eR _⟩
def Kr w v ps(h:Ia w v ps)(i:0<ps.length):Calls Tryz.prog 158 #[v] w fun e j=>e=.returned (Y O (Wb ps))/\Ba w j:=by
 obtain⟨a,c,rfl⟩:=h.form;obtain⟨n,f⟩:∃n,ps.length=n+1:=⟨ps.length-1,by omega⟩;rw[f]at h ⊢;have d:=h.le;rw[f]at d;unfold maxLen at d;obtain⟨⟨x,z⟩,g⟩:∃p,ps[n]?=Z p:=⟨ps[n],by simp⟩;obtain⟨b,o,rfl,m,k,l⟩:=h.at' g;have e:Wb ps=x:=by unfold Wb;rw[f,Nat.add_sub_cancel,gD,g];rfl
 rw[e];have q:((n+1:Nat):Int)-1=(n:Int):=oM;have r:(n:Int)<((n+1:Nat):Int):=oM;have s:n<=9223372036854775806:=oM;clear e g h f d i;go_in;go_wp2;go_ret;exact⟨rfl,eR _⟩
def nM{p q}[Decidable p][Decidable q](h:p ↔ q):Ending.returned (H (decide p)) = .returned (H (decide q)):=by rw[show decide p=decide q from decide_eq_decide.2 h]
def GU(w:V)(G:Nat)(g:Nat)(t0 c:M)(W:V):Prop:=∃a b:Nat,t0=Y O a/\c=Y O b/\a<=9223372036854775807/\b<=9223372036854775807/\Nat.gcd a b=G/\g=b/\Ba w W
def YS w(a b:Nat)(k:a<=9223372036854775807)(l:b<=9223372036854775807):Calls Tryz.prog 225 #[Y O a,Y O b] w fun e p=>e=.returned (Y O (Nat.gcd a b:Nat))/\Ba w p:=by
 obtain⟨G,d⟩:=gX (Nat.gcd a b);rw[d];have f:=za d;clear d;go_in;go_wp2;go_loopg [0,1] b (GU w G)
 case atStart=>exact⟨a,b,rfl,rfl,k,l,f.o,rfl,eR _⟩
 case round =>
  clear k l f;obtain⟨x,y,rfl,rfl,t,o,m,rfl,c⟩:=hrel;have g:=za m;clear m;by_cases i:gk=0
  ·subst i;go_wp2;go_ret;exact⟨Uj (Ak (by rw[<-g.o];simp)),c⟩
  ·have q:((gk:Int)==0)=false:=by simp;omega
   have r:((gk:Int) != 0)=true:=by simp;omega
   have s:(1:Int)<=(gk:Int):=oM;have j:0<gk:=oM;clear i;go_wp2;go_quiet (fail);go_wp2;go_roundg (x%gk)
   case measure=>exact Nat.mod_lt x j
   case rel =>
    have n:=Nat.mod_lt x j;exact⟨gk,x%gk,rfl,Ak sM,o,by omega,by rw[<-g.o,Nat.gcd_comm x gk,Nat.gcd_rec gk x,Nat.gcd_comm],rfl,c.drewN _⟩
structure Pl where
 name:ByteArray
 shape:LP
 depth:Int
 density:Int
 gx:Int
 gz:Int
 way:Int
 ax:Int
 az:Int
 skin:Int
def Dd(p:Pl)(sl:M):Array M:=#[.string p.name,sl,Y O p.depth,Y O p.density,Y O p.gx,Y O p.gz,Y O p.way,Y O p.ax,Y O p.az,Y .u8 p.skin]
def Me(p q:Pl):Bool:=p.skin==q.skin || p.skin==3 || q.skin==3
def Ps w p q s t(v:∃a n c,s=J a n c)(x:∃a n c,t=J a n c):Calls Tryz.prog 163 #[I (Dd p s),I (Dd q t)] w fun e K=>e=.returned (H (Me p q))/\Ba w K:=by
 obtain⟨a,n,c,rfl⟩:=v;obtain⟨R,n',c',rfl⟩:=x;obtain⟨nm,sh,d,de,gx,gz,wy,W,az,f⟩:=p;obtain⟨y,z,d',o,r,u,L,l,m,b⟩:=q;unfold Me Dd;dsimp only;by_cases g:f=b
 ·have j:(f==b)=true:=by simpa using g
  rw[j];clear g;go_in;go_wp2;go_ret;exact⟨rfl,eA⟩
 have j:(f==b)=false:=by simpa using g
 rw[j];clear g;by_cases i:f=3
 ·have k:(f==3)=true:=by simpa using i
  rw[k];clear i;go_in;go_wp2;go_ret;exact⟨rfl,eA⟩
 have k:(f==3)=false:=by simpa using i
 rw[k];clear i;go_in;go_wp2;go_ret;exact⟨rfl,eA⟩
def Ol(T:TypeId)(k:Nat)(w:V)(cs:List (List M))(e:Ending)(w':V):Prop:=∃v,e=.returned v/\Ea T k w' w.heap.size v cs/\Ba w w'
def IQ w(n:Nat)(p:n<=1000000000):Calls Tryz.prog 274 #[J X 0 0,Y O n] w (Ol 91 2 w []):=by
 by_cases j:n=0
 ·subst j;go_in;go_wp2;go_ret;exact⟨_,rfl,Ea.nil _ _ _ _,eR _⟩
 ·have m:(1:Int)<=(n:Int):=oM;obtain⟨i,g,d,e,c⟩:=info_parts mo;have a:(Builtin.firstCells i.size 0 (J X 0 0)).run Tryz.prog w.drew = .ok ([]:List M).toArray w.drew:=run_firstCells_none w.drew i.size 0 0 0;have l:∀ty,(Builtin.append_ #[36,3] ty #[J X 0 0,Y O (n:Int)]).run Tryz.prog w = .ok (J (Z ⟨w.heap.size,0,X⟩) n (grownCap w n 0 91)) (w.drew.alloc (.cells (([]:List M).toArray++Builtin.zeroCells (Value.cells (I #[Y O 0,Y O 0])) n++Builtin.zeroCells (Value.cells (I #[Y O 0,Y O 0])) (grownCap w n 0 91-n)) 91)):=fun ty=>by
   have h:=Lib.run_append_grow_zeros w 36 3 ty 91 i (I #[Y O 0,Y O 0]) O O Tryz.underlying36 Tryz.underlying3 g d X 0 0 [] a n oM (by rw[e];omega) oM oM (by rw[c];omega)
    (growslice_fits oM (by rw[c];omega))
   simpa using h
  have o:=grownCap_ge w n 0 91;have b:=grownCap_le_maxLen w n 0 91 (by unfold maxLen;omega);generalize grownCap w n 0 91=G at *
  have k:G<=9223372036854775807:=by unfold maxLen at b;omega
  have f:=za b;clear a g d e c b;go_in;go_wp2_with(at_builtin;refine Lib.wpList_append_run _ rfl _ _ _ _ rfl _ _ rfl rfl _ _ (l _) ?_);go_ret;refine⟨_,rfl,⟨by simp,rfl,.inr ⟨w.heap.size,G,_,rfl,nE _,aN w.drew _,by simp,f.o,?_,by simp⟩⟩,eA⟩;simp[Builtin.zeroCells,Value.cells];omega
def JQ w(n:Nat)(p:n<=1000000000):Calls Tryz.prog 285 #[J X 0 0,Y O n] w (Ol 91 2 w []):=by
 by_cases j:n=0
 ·subst j;go_in;go_wp2;go_ret;exact⟨_,rfl,Ea.nil _ _ _ _,eR _⟩
 ·have m:(1:Int)<=(n:Int):=oM;obtain⟨i,g,d,e,c⟩:=info_parts mo;have a:(Builtin.firstCells i.size 0 (J X 0 0)).run Tryz.prog w.drew = .ok ([]:List M).toArray w.drew:=run_firstCells_none w.drew i.size 0 0 0;have l:∀ty,(Builtin.append_ #[146,3] ty #[J X 0 0,Y O (n:Int)]).run Tryz.prog w = .ok (J (Z ⟨w.heap.size,0,X⟩) n (grownCap w n 0 91)) (w.drew.alloc (.cells (([]:List M).toArray++Builtin.zeroCells (Value.cells (I #[Y O 0,Y O 0])) n++Builtin.zeroCells (Value.cells (I #[Y O 0,Y O 0])) (grownCap w n 0 91-n)) 91)):=fun ty=>by
   have h:=Lib.run_append_grow_zeros w 146 3 ty 91 i (I #[Y O 0,Y O 0]) O O Tryz.underlying146 Tryz.underlying3 g d X 0 0 [] a n oM (by rw[e];omega) oM oM (by rw[c];omega)
    (growslice_fits oM (by rw[c];omega))
   simpa using h
  have o:=grownCap_ge w n 0 91;have b:=grownCap_le_maxLen w n 0 91 (by unfold maxLen;omega);generalize grownCap w n 0 91=G at *
  have k:G<=9223372036854775807:=by unfold maxLen at b;omega
  have f:=za b;clear a g d e c b;go_in;go_wp2_with(at_builtin;refine Lib.wpList_append_run _ rfl _ _ _ _ rfl _ _ rfl rfl _ _ (l _) ?_);go_ret;refine⟨_,rfl,⟨by simp,rfl,.inr ⟨w.heap.size,G,_,rfl,nE _,aN w.drew _,by simp,f.o,?_,by simp⟩⟩,eA⟩;simp[Builtin.zeroCells,Value.cells];omega
def Tr(T:TypeId)(w:V)(c:List M)(ps:LP):Prop:=∃v,c=[v]/\Ia w v ps
def Fk(a:List LP):Nat:=a.flatten.length
def mw{a:List LP}{i ps}(h:a[i]?=Z ps):Fk (a.take (i+1))=Fk (a.take i)+ps.length:=by unfold Fk;rw[ze _ _ _ h,List.flatten_append,lA];simp
def ip a i:Fk (a.take i)<=Fk a:=by
 unfold Fk
 conv=>rhs;rw[<-List.take_append_drop i a,List.flatten_append,lA]
 omega
def tH(w:V)(a:List LP)(g:Nat)(t3 b:M)(W:V):Prop:=
 ∃i:Nat,i<=a.length/\b=Y O i/\t3=Y O (Fk (a.take i))/\g=a.length-i/\Ba w W
def sH(w:V)(base:Nat)(a:List LP)(g:Nat)(c b:M)(W:V):Prop:=
 ∃i:Nat,i<=a.length/\b=Y O i/\Ea 91 2 W base c ((a.take i).flatten.map pc)/\g=a.length-i/\Ba w W/\base<=W.heap.size
def WB{T w v}{ps:LP}(h:Sl T 2 PP w v ps):Rd w T 2 v (ps.map pc).length (ps.map pc).flatten:=by
 obtain⟨a,g,j,d,f⟩:=h;have e:a=ps.map pc:=by
  apply List.ext_getElem?;intro i;rw[lP];by_cases k:i<ps.length
  ·have b:a[i]?=Z (a[i]' oM):=gE _;have c:ps[i]?=Z (ps[i]):=gE _;have:=f i _ _ b c;rw[b,c];exact congrArg Z this
  ·rw[List.getElem?_eq_none oM,List.getElem?_eq_none oM];rfl
 subst e;rw[lL];exact d
def YP w v f(h:Sl 36 1 (Tr 36) w v f)(ht:Fk f<=1000000000):Calls Tryz.prog 246 #[v] w (Ol 91 2 w (f.flatten.map pc)):=by
 obtain⟨a,c,rfl⟩:=h.form;obtain⟨n,hn⟩:=gX f.length;rw[hn]at h ⊢;have af:=h.le;unfold maxLen at af;have av:n<=9223372036854775807:=oM;have r:=za hn;have Ht:=za ht;clear hn af ht;have hP:∀{W:V},Ba w W->Sl 36 1 (Tr 36) W (J a n c) f:=fun hx=>h.ext (fun _ _ ⟨v,h1,h2⟩=>⟨v,h1,h2.f hx⟩) hx;go_in;go_wp2;go_loopg [3,11] n (tH w f)
 case atStart=>exact⟨0,by omega,rfl,rfl,by rw[r.o];rfl,eR _⟩
 case round =>
  obtain⟨i,hi,rfl,rfl,rfl,hx⟩:=hrel;rw[r.o]at hi;obtain⟨q,hq⟩:=gX (Fk (f.take i));have aw:q<=1000000000:=by rw[<-hq];exact nT (ip f i) Ht.o
  rw[hq];by_cases am:i<n
  ·obtain⟨ps,l⟩:∃q,f[i]?=Z q:=⟨f[i]'(by rw[r.o];omega),by simp[r.o,am]⟩;obtain⟨b,o,d,rfl,hb,L,⟨v,rfl,hv⟩,hc⟩:=(hP hx).at l;have u:=hc 0 v rfl;simp only[Nat.mul_one,Nat.add_zero]at u;clear hc L;obtain⟨a',c',rfl⟩:=hv.form;have p:=mw l;rw[hq]at p;obtain⟨m,hm⟩:=gX ps.length;rw[hm]at p u;have au:q+m<=1000000000:=by rw[<-p];exact nT (ip f (i+1)) Ht.o
   have aj:=za p;have ao:=hv;have Hm:=za hm;clear p l hq hv hm ao;go_wp2;go_roundg (n-(i+1))
   case measure=>have:=r.o;omega
   case rel=>exact⟨i+1,by have:=r.o;omega,by go_num,by rw[aj.o];go_num,by rw[r.o],eA⟩
  ·obtain rfl:i=n:=oM;clear hq;go_wp2_with(((go_at_call 274;(with_reducible refine(IQ _ q oM).mono ?_);rintro e w1 ⟨v1,rfl,aa,x⟩;obtain⟨a1,c1,rfl⟩:=aa.form;obtain⟨ak,al⟩:=x.cells)));have z:=hx.trans x;obtain⟨W0,rfl⟩:∃W0,W0=wr:=⟨_,rfl⟩;go_loopg [6,27] i (sH w W0.heap.size f)
   case atStart=>exact⟨0,by omega,rfl,by simpa using aa,by rw[r.o];rfl,z,x.size⟩
   case round =>
    clear x z aa ak al;obtain⟨j,hj,rfl,g,rfl,ab,K⟩:=hrel;rw[r.o]at hj;obtain⟨a2,c2,rfl⟩:=g.form;obtain⟨L2,s⟩:=gX (((f.take j).flatten.map pc).length);(have ar:L2<=1000000000:=by rw[<-s,lL];exact nT (ip f j) Ht.o);rw[s]at g ⊢;have ah:=hx.size;by_cases ag:j<i
    ·obtain⟨ps,l⟩:∃q,f[j]?=Z q:=⟨f[j]'(by rw[r.o];omega),by simp[r.o,ag]⟩;obtain⟨b,o,d,rfl,hb,L,⟨v,rfl,hv⟩,hc⟩:=(hP ab).at l;have u:=hc 0 v rfl;simp only[Nat.mul_one,Nat.add_zero]at u;clear hc L;obtain⟨a',c',rfl⟩:=hv.form;have p:=mw l;have y:((f.take j).flatten.map pc).length+(ps.map pc).length<=100000000000:=by
      have:=ip f (j+1);have h9:=Ht.o;rw[p]at this;unfold Fk at this h9;rw[lL,lL];omega
     have ae:(f.take (j+1)).flatten.map pc=(f.take j).flatten.map pc++ps.map pc:=by
      rw[ze _ _ _ l,List.flatten_append,List.map_append];simp
     have an:=WB hv;have ai:=za ae;have aq:=za s;have ac:=za y;clear p l ae s y;go_wp2_with(at_builtin;refine Kq (v:=J a2 L2 c2) mo rfl dM dM Tryz.underlying36 rfl _ _ rfl rfl g rfl (ps.map pc) Fs an Es ac.o K ?_;intro v' w1 t R ap;obtain⟨a3,n3,c3,rfl⟩:=t.i);go_roundg (i-(j+1))
     case measure=>have:=r.o;omega
     case rel =>
      have ad:=Yg R K (fun k hk=>(g.lt k hk).1);exact⟨j+1,by rw[r.o];omega,by go_num,by rw[ai.o];exact t,by rw[r.o],ab.D ad ah,nT K ad.size⟩
    ·obtain rfl:j=i:=oM;(have e:(f.take j).flatten.map pc=f.flatten.map pc:=by rw[lT (by rw[r.o];omega)]);have E:=za e;clear e s;go_wp2;go_ret;exact⟨_,rfl,by rw[<-E.o];exact g.mono ah,ab⟩
def ZP w v f(h:Sl 146 1 (Tr 146) w v f)(ht:Fk f<=1000000000):Calls Tryz.prog 255 #[v] w (Ol 91 2 w (f.flatten.map pc)):=by
 obtain⟨a,c,rfl⟩:=h.form;obtain⟨n,hn⟩:=gX f.length;rw[hn]at h ⊢;have af:=h.le;unfold maxLen at af;have av:n<=9223372036854775807:=oM;have r:=za hn;have Ht:=za ht;clear hn af ht;have hP:∀{W:V},Ba w W->Sl 146 1 (Tr 146) W (J a n c) f:=fun hx=>h.ext (fun _ _ ⟨v,h1,h2⟩=>⟨v,h1,h2.f hx⟩) hx;go_in;go_wp2;go_loopg [3,11] n (tH w f)
 case atStart=>exact⟨0,by omega,rfl,rfl,by rw[r.o];rfl,eR _⟩
 case round =>
  obtain⟨i,hi,rfl,rfl,rfl,hx⟩:=hrel;rw[r.o]at hi;obtain⟨q,hq⟩:=gX (Fk (f.take i));have aw:q<=1000000000:=by rw[<-hq];exact nT (ip f i) Ht.o
  rw[hq];by_cases am:i<n
  ·obtain⟨ps,l⟩:∃q,f[i]?=Z q:=⟨f[i]'(by rw[r.o];omega),by simp[r.o,am]⟩;obtain⟨b,o,d,rfl,hb,L,⟨v,rfl,hv⟩,hc⟩:=(hP hx).at l;have u:=hc 0 v rfl;simp only[Nat.mul_one,Nat.add_zero]at u;clear hc L;obtain⟨a',c',rfl⟩:=hv.form;have p:=mw l;rw[hq]at p;obtain⟨m,hm⟩:=gX ps.length;rw[hm]at p u;have au:q+m<=1000000000:=by rw[<-p];exact nT (ip f (i+1)) Ht.o
   have aj:=za p;have ao:=hv;have Hm:=za hm;clear p l hq hv hm ao;go_wp2;go_roundg (n-(i+1))
   case measure=>have:=r.o;omega
   case rel=>exact⟨i+1,by have:=r.o;omega,by go_num,by rw[aj.o];go_num,by rw[r.o],eA⟩
  ·obtain rfl:i=n:=oM;clear hq;go_wp2_with(((go_at_call 285;(with_reducible refine(JQ _ q oM).mono ?_);rintro e w1 ⟨v1,rfl,aa,x⟩;obtain⟨a1,c1,rfl⟩:=aa.form;obtain⟨ak,al⟩:=x.cells)));have z:=hx.trans x;obtain⟨W0,rfl⟩:∃W0,W0=wr:=⟨_,rfl⟩;go_loopg [6,27] i (sH w W0.heap.size f)
   case atStart=>exact⟨0,by omega,rfl,by simpa using aa,by rw[r.o];rfl,z,x.size⟩
   case round =>
    clear x z aa ak al;obtain⟨j,hj,rfl,g,rfl,ab,K⟩:=hrel;rw[r.o]at hj;obtain⟨a2,c2,rfl⟩:=g.form;obtain⟨L2,s⟩:=gX (((f.take j).flatten.map pc).length);(have ar:L2<=1000000000:=by rw[<-s,lL];exact nT (ip f j) Ht.o);rw[s]at g ⊢;have ah:=hx.size;by_cases ag:j<i
    ·obtain⟨ps,l⟩:∃q,f[j]?=Z q:=⟨f[j]'(by rw[r.o];omega),by simp[r.o,ag]⟩;obtain⟨b,o,d,rfl,hb,L,⟨v,rfl,hv⟩,hc⟩:=(hP ab).at l;have u:=hc 0 v rfl;simp only[Nat.mul_one,Nat.add_zero]at u;clear hc L;obtain⟨a',c',rfl⟩:=hv.form;have p:=mw l;have y:((f.take j).flatten.map pc).length+(ps.map pc).length<=100000000000:=by
      have:=ip f (j+1);have h9:=Ht.o;rw[p]at this;unfold Fk at this h9;rw[lL,lL];omega
     have ae:(f.take (j+1)).flatten.map pc=(f.take j).flatten.map pc++ps.map pc:=by
      rw[ze _ _ _ l,List.flatten_append,List.map_append];simp
     have an:=WB hv;have ai:=za ae;have aq:=za s;have ac:=za y;clear p l ae s y;go_wp2_with(at_builtin;refine Kq (v:=J a2 L2 c2) mo rfl dM dM Tryz.underlying146 rfl _ _ rfl rfl g rfl (ps.map pc) Fs an Es ac.o K ?_;intro v' w1 t R ap;obtain⟨a3,n3,c3,rfl⟩:=t.i);go_roundg (i-(j+1))
     case measure=>have:=r.o;omega
     case rel =>
      have ad:=Yg R K (fun k hk=>(g.lt k hk).1);exact⟨j+1,by rw[r.o];omega,by go_num,by rw[ai.o];exact t,by rw[r.o],ab.D ad ah,nT K ad.size⟩
    ·obtain rfl:j=i:=oM;(have e:(f.take j).flatten.map pc=f.flatten.map pc:=by rw[lT (by rw[r.o];omega)]);have E:=za e;clear e s;go_wp2;go_ret;exact⟨_,rfl,by rw[<-E.o];exact g.mono ah,ab⟩
def pf(r:Int):Bool:=!(decide (97<=r)&&decide (r<=122))&&!(decide (48<=r)&&decide (r<=57))
def FL w r:Calls Tryz.prog 227 #[Y .i32 r] w fun e j=>e=.returned (H (pf r))/\j=w:=by
 unfold pf;by_cases d:97<=r
 ·have a:decide (97<=r)=true:=by simpa using d
  by_cases f:r<=122
  ·have c:decide (r<=122)=true:=by simpa using f
   go_in;go_wp2;go_ret;exact⟨by simp[a,c],rfl⟩
  ·have c:decide (r<=122)=false:=by simpa using f
   have b:decide (48<=r)=true:=by simp;omega
   have i:decide (r<=57)=false:=by simp;omega
   go_in;go_wp2;go_ret;exact⟨by simp[a,c,b,i],rfl⟩
 ·have a:decide (97<=r)=false:=by simpa using d
  by_cases g:48<=r
  ·have b:decide (48<=r)=true:=by simpa using g
   go_in;go_wp2;go_ret;exact⟨by simp[a,b],rfl⟩
  ·have b:decide (48<=r)=false:=by simpa using g
   go_in;go_wp2;go_ret;exact⟨by simp[a,b],rfl⟩
