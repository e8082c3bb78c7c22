/- Part 23. -/
import Derived.Test.YtjnjpagegkcgfaaGreatDoorCosA21
import Derived.Test.YtjnjpagegkcgfaaGreatDoorCosA18
set_option maxRecDepth 1000000
set_option maxHeartbeats 16000000
set_option linter.unusedSimpArgs false
set_option linter.unusedVariables false
open Go.Value renaming int->O,slice->X
open Go.IntKind renaming i64->Y,u8->C
open Option renaming none->I,some->F
open Go renaming World->J,Value->E
open Go.Obj renaming cells->M
namespace Go.Proofs.YtjnjpagegkcgfaaGreatDoor.Cop
section
open Go.RowKit Go.Shelf
attribute [local go_sem] Oper.semAt_some
theorem ziX:∀d:Nat,d<10->Utf8.encode (48+(d:Int))=⟨[UInt8.ofNat (48+d)].toArray⟩:=by
 intro d h
 match d,h with
 | 0,_=>rfl
 | 1,_=>rfl
 | 2,_=>rfl
 | 3,_=>rfl
 | 4,_=>rfl
 | 5,_=>rfl
 | 6,_=>rfl
 | 7,_=>rfl
 | 8,_=>rfl
 | 9,_=>rfl
def TzO(xs:List Int)(N i:Nat)(s:List UInt8):Prop:=
 i<=xs.length/\s.length<=4*i/\(i<xs.length->DigS s/\s.length=4*i/\((valS s:Nat):Int)=dv C4 (xs.take i))/\(i=xs.length->textN N=s)
def TzJ(n i V g k:Nat)(s:List UInt8):Prop:=k<=4/\DigS s/\s.length=4*i+k/\valS s=V+10000 ^ i*(g % 10 ^ k)/\(k=0\/i+1<n\/0<g / 10 ^ (k-1))
theorem TzJ.step{n i V g k:Nat}{s:List UInt8}(h:TzJ n i V g k s)(l:k<4)(j:i+1<n\/0<g / 10 ^ k):TzJ n i V g (k+1) (UInt8.ofNat (48+g / 10 ^ k % 10)::s):=by
 obtain⟨_,d,e,f,_⟩:=h;obtain⟨a,b,c⟩:=zlS d e f;exact⟨by omega,a,b,c,by rw[Nat.add_sub_cancel];exact .inr j⟩
theorem TzJ.done{xs:List Int}{N i V g k:Nat}{s:List UInt8}(h:TzJ xs.length i V g k s)(c:xs[i]?=F (g:Int))(o:Can C4 xs)(x:((V:Nat):Int)=dv C4 (xs.take i))(w:dv C4 xs=(N:Int))
  (q:k=4\/(g / 10 ^ k=0/\¬i+1<xs.length)):TzO xs N (i+1) s:=by
 obtain⟨z,m,t,n,u⟩:=h;have y:=(lS.1 c).1
 have r:g<10000:=by
  have:=(o.1 _ (lM c)).2;unfold C4 at this;omega
 have p:=zan C4 xs i (g:Int) c;have v:(C4:Int) ^ i=((10000 ^ i:Nat):Int):=by unfold C4;rw[Int.natCast_pow];rfl
 rw[<-x,v]at p;have a:dv C4 (xs.take (i+1))=((V+10000 ^ i*g:Nat):Int):=by rw[p,Int.natCast_add,Int.natCast_mul]
 refine⟨by omega,by omega,fun j=>?_,fun d=>?_⟩
 ·have b:k=4:=by
   rcases q with e|⟨_,e⟩
   ·exact e
   ·exact absurd j e
  subst b;refine⟨m,by omega,?_⟩;rw[n,Nat.mod_eq_of_lt (by simpa using r),a]
 ·rw[d,List.take_length]at a
  have f:g≠0:=by
   rintro rfl;refine o.2 ?_;rw[List.getLast?_eq_getElem?,show xs.length-1=i by omega,c];rfl
  have l:g / 10 ^ k=0:=by
   rcases q with rfl|⟨e,_⟩
   ·exact Nat.div_eq_of_lt (by simpa using r)
   ·exact e
  have b:0<k:=by
   rcases Nat.eq_zero_or_pos k with rfl|b
   ·simp at l;exact absurd l f
   ·exact b
  refine znG m t n l b ?_ (by rw[w]at a;exact_mod_cast a)
  rcases u with e|e|e
  ·omega
  ·omega
  ·exact e
def TzR(xs:List Int)(N:Nat)(W0:J)(t3 t4:E)(W:J):Prop:=∃(i:Nat)(s:List UInt8),t4=O Y i/\t3 = .string ⟨s.toArray⟩/\TzO xs N i s/\W=W0
def TzK(n i V g:Nat)(W0:J)(t3 t5 a:E)(W:J):Prop:=∃(k:Nat)(s:List UInt8),a=O Y k/\t5=O Y ((g / 10 ^ k:Nat):Int)/\t3 = .string ⟨s.toArray⟩/\TzJ n i V g k s/\W=W0
theorem znC:textZ 0=[48]:=rfl
theorem zev(w:J)(v:E)(n:Int)(h:IsN w v n)(hl:Lm limT n) :
  Calls Tryz.prog 168 #[v] w fun e w'=>e = .returned (.string ⟨(textZ n).toArray⟩)/\Ext w w':=by
 obtain⟨σ,a,m,c,rfl,hs⟩:=h.form2;obtain⟨xs,l,hi,hc,hv⟩:=h.open;have hm:=zbg hl hc hv;rw[l]at hm;unfold limT at hm
 by_cases h0:n=0
 ·subst h0
  obtain rfl:σ=0:=hs;rw[znC];clear h hl l hi hc hv hm;go_enter Tryz.func168,Tryz.ntmps168;go_wp2;go_ret;exact⟨rfl,eA⟩
 ·have aB:(σ==0)=false:=by
   rcases zai n with ⟨e,_⟩|⟨_,e⟩|⟨e,_⟩
   ·rw[hs,e];rfl
   ·exact absurd e h0
   ·rw[hs,e];rfl
  obtain⟨T,hT⟩:=gX (textN n.natAbs);have HT:Hid (textN n.natAbs=T):=hd9 hT;have HL:Hid (T.length<=20*limT):=hd9 (by rw[<-hT];exact zcF hl.abs)
  have hz:(decide (σ<0)=true/\textZ n=45::T)\/(decide (σ<0)=false/\textZ n=T):=by
   unfold textZ;rw[hT]
   rcases zai n with ⟨e,e'⟩|⟨_,e⟩|⟨e,e'⟩
   ·exact .inl ⟨by rw[hs,e];rfl,if_pos e'⟩
   ·exact absurd e h0
   ·exact .inr ⟨by rw[hs,e];rfl,if_neg oM⟩
  obtain⟨Z,hZ⟩:=gX (textZ n);rw[hZ]at hz ⊢;have Hz:=hd9 hz;obtain⟨N,hN⟩:=gX n.natAbs;rw[hN]at hv HT
  have aA:0<m:=by
   rcases Nat.eq_zero_or_pos m with e|e
   ·rw[<-l]at e
    rw[List.length_eq_zero_iff.1 e]at hv;have:(0:Int)=(N:Int):=hv;omega
   ·exact e
  have Hv:=hd9 hv;have Hc:=hd9 hc;have z:=hd9 l;obtain⟨W0,d⟩:=gX (w.alloc (M #[O Y σ,X a m c] 66));have X0:Ext w W0:=by rw[<-d];exact(eR w).alloc _
  have ab:=hd9 X0;have p0:W0.cell? ⟨w.heap.size,0,I⟩=F (O Y σ):=by rw[<-d];clear d;go_simp
  have p1:W0.cell? ⟨w.heap.size,1,I⟩=F (X a m c):=by rw[<-d];clear d;go_simp
  have z0:w.heap.size<W0.heap.size:=by rw[<-d];simp
  obtain⟨b,o,rfl,aw,ai⟩:=(hi.ext X0).open (by rw[l];omega);have ak:=hd9 ai;clear hs h0 hl hT hz hZ hN hv hc l hi h X0 ai;go_enter Tryz.func168,Tryz.ntmps168;go_wp2
  go_loopw [3,4] (TzR xs N W0) (fun _ t4 _=>m-(intOf t4).toNat)
  case atStart =>
   exact⟨0,[],rfl,rfl,⟨by omega,by simp,fun _=>⟨fun b hb=>by simp at hb,rfl,rfl⟩,fun e=>by have:=z.out;omega⟩,by first|rfl|exact d⟩
  case round =>
   clear d;obtain⟨i,s8,rfl,rfl,hO,rfl⟩:=hrel;have ay:i<=m:=by have:=hO.1;rw[z.out]at this;exact this
   have HO:=hd9 hO;clear hO
   by_cases aq:i<m
   ·obtain⟨x,u⟩:∃x,xs[i]?=F x:=⟨_,gE (by rw[z.out];omega)⟩
    have aj:=Hc.out.1 x (lM u);obtain⟨g,rfl⟩:∃g:Nat,x=(g:Int):=⟨x.toNat,by omega⟩;have ax:(g:Int)<10000:=aj.2;have av:=ak.out i _ u;obtain⟨ad,ae,af⟩:=HO.out.2.2.1 (by rw[z.out];exact aq);have ac:=hd9 u;have al:=hd9 ad;have am:=hd9 ae;have aa:=hd9 af;have g0:(0:Int)<=(i:Int):=oM
    have g1:(i:Int)<(m:Int):=oM
    clear aj u ad ae af HO;go_wp2
    go_loopw [3,5,6] (TzK m i (valS s8) g wr) (fun _ _ t6 _=>4-(intOf t6).toNat)
    case atStart =>
     exact⟨0,s8,rfl,by simp,rfl,⟨by omega,al.out,am.out,by rw[Nat.pow_zero,Nat.mod_one];simp,.inl rfl⟩,rfl⟩
    case round =>
     obtain⟨k,K,rfl,rfl,rfl,hJ,rfl⟩:=hrel;have az:k<=4:=hJ.1;obtain⟨y,hy⟩:=gX (g / 10 ^ k);have aD:y<10000:=by rw[<-hy];exact Nat.lt_of_le_of_lt (Nat.div_le_self _ _) oM
     rw[hy];have R:=hd9 hJ;have W:=hd9 hy;clear hJ hy
     by_cases D:k<4
     ·by_cases au:0<y
      ·have p:i+1<m\/0<g / 10 ^ k:=.inr (by rw[W.out];exact au)
       obtain⟨r,hr⟩:=gX (Int.tmod (y:Int) 10);obtain⟨q,hq⟩:=gX (Int.tdiv (y:Int) 10);obtain⟨Q,f⟩:=gX (UInt8.ofNat (48+y % 10));have t:r=((y % 10:Nat):Int):=by rw[<-hr];rfl
       have s:q=((y / 10:Nat):Int):=by rw[<-hq];rfl
       have ao:Utf8.encode (48+r)=⟨[Q].toArray⟩:=by rw[t,<-f];exact ziX _ oM
       have r0:0<=r:=oM
       have r1:r<10:=oM
       have q0:0<=q:=oM
       have q1:q<10000:=oM
       have j:=R.out.step D p;rw[W.out,f]at j;have P:=hd9 j;have L:=hd9 s;have ah:¬9223372036854775807<1+K.length:=by have:=R.out.2.2.1;omega
       clear p j s t f;go_wp2
       go_roundw
       case rel =>
        refine⟨k+1,Q::K,by go_num,?_,?_,P.out,rfl⟩
        ·rw[Nat.pow_succ,<-Nat.div_div_eq_div_mul,W.out,<-L.out];try go_num
        ·exact congrArg Value.string (za1 [Q] K)
       case measure=>simp[intOf];omega
      ·have an:Hid (y=0):=hd9 oM
       have aC:¬(0:Int)<(y:Int):=oM
       by_cases ag:i+1<m
       ·have ap:(i:Int)<(m:Int)-1:=oM
        have p:i+1<m\/0<g / 10 ^ k:=.inl ag;obtain⟨r,hr⟩:=gX (Int.tmod (y:Int) 10);obtain⟨q,hq⟩:=gX (Int.tdiv (y:Int) 10);obtain⟨Q,f⟩:=gX (UInt8.ofNat (48+y % 10));have t:r=((y % 10:Nat):Int):=by rw[<-hr];rfl
        have s:q=((y / 10:Nat):Int):=by rw[<-hq];rfl
        have ao:Utf8.encode (48+r)=⟨[Q].toArray⟩:=by rw[t,<-f];exact ziX _ oM
        have r0:0<=r:=oM
        have r1:r<10:=oM
        have q0:0<=q:=oM
        have q1:q<10000:=oM
        have j:=R.out.step D p;rw[W.out,f]at j;have P:=hd9 j;have L:=hd9 s;have ah:¬9223372036854775807<1+K.length:=by have:=R.out.2.2.1;omega
        clear p j s t f;go_wp2
        go_roundw
        case rel =>
         refine⟨k+1,Q::K,by go_num,?_,?_,P.out,rfl⟩
         ·rw[Nat.pow_succ,<-Nat.div_div_eq_div_mul,W.out,<-L.out];try go_num
         ·exact congrArg Value.string (za1 [Q] K)
        case measure=>simp[intOf];omega
       ·have ap:¬(i:Int)<(m:Int)-1:=oM
        go_wp2
        go_roundw
        case rel =>
         refine⟨i+1,K,by go_num,rfl,?_,rfl⟩;exact TzJ.done (by rw[z.out];exact R.out) ac.out Hc.out aa.out Hv.out (.inr ⟨W.out.trans an.out,by rw[z.out];exact ag⟩)
        case measure=>simp[intOf];omega
     ·obtain rfl:k=4:=oM
      go_wp2
      go_roundw
      case rel =>
       refine⟨i+1,K,by go_num,rfl,?_,rfl⟩;exact TzJ.done (by rw[z.out];exact R.out) ac.out Hc.out aa.out Hv.out (.inl rfl)
      case measure=>simp[intOf];omega
   ·obtain rfl:i=m:=oM
    have ar:T=s8:=HT.out.symm.trans (HO.out.2.2.2 z.out.symm);subst ar;have ah:¬9223372036854775807<1+T.length:=by have:=HL.out;unfold limT at this;omega
    rcases Hz.out with ⟨hd,ht⟩|⟨hd,ht⟩
    ·have Ht:=hd9 ht
     clear ht Hz;go_wp2;go_ret;exact⟨by rw[Ht.out,show (⟨#[45]⟩:ByteArray)=⟨[45].toArray⟩from rfl,za1];rfl,ab.out⟩
    ·have Ht:=hd9 ht
     clear ht Hz;go_wp2;go_ret;exact⟨by rw[Ht.out];rfl,ab.out⟩
end
section
open Go.RowKit Go.Shelf Go.Sort Go.Lib
theorem zg2{g:LP}:∀{c done:List Pl},laid1 g done c=0->∀p∈c,placedOk p=true
 | [],_,_,p,b=>by cases b
 | q::r,done,h,p,b=>by
  unfold laid1 at h
  by_cases a:addE g done q=0
  ·rw[if_pos a]at h
   rcases List.mem_cons.1 b with rfl|b
   ·cases hk:placedOk p with
    | true=>rfl
    | false=>unfold addE at a;rw[hk]at a;simp at a
   ·exact zg2 h p b
  ·rw[if_neg a]at h;exact absurd h a
theorem zbW{g:LP}{ps:List Pl}(h:laidP g ps=0):(∀p∈ps,placedOk p=true)/\ps.length<=120/\groundB g=true:=by
 unfold laidP at h
 cases hg:groundB g with
 | false=>rw[hg]at h;simp at h
 | true =>
  rw[hg,if_pos rfl]at h
  by_cases b:120<ps.length
  ·rw[if_pos b]at h;exact absurd h dM
  ·rw[if_neg b]at h
   by_cases a:laid1 g [] ps=0
   ·exact⟨zg2 a,by omega,rfl⟩
   ·rw[if_neg a]at h;exact absurd h a
def OwnPl(w:J)(base:Nat)(v:E)(ps:List Pl):Prop:=∃cs,OwnC 47 10 w base v cs/\cs.length=ps.length/\∀(i:Nat) c p,cs[i]?=F c->ps[i]?=F p->PPl w c p
theorem OwnPl.pls{w:J}{base:Nat}{v:E}{ps:List Pl}(h:OwnPl w base v ps):IsPls w v ps:=by
 obtain⟨d,a,b,c⟩:=h;exact a.sl b c
end
section
open Go.RowKit Go.Shelf Go.Sort Go.Lib
attribute [local go_sem] Oper.semAt_some
theorem zjT(w:J)(v1 v2:E)(p q:Pl)(h1:IsPts w v1 p.shape)(h2:IsPts w v2 q.shape)(k1:0<=p.skin)(k2:0<=q.skin)(av:Gw w)(o1:placedOk p=true)(o2:placedOk q=true) :
  Calls Tryz.prog 103 #[.agg (plc p v1),.agg (plc q v2)] w fun e w'=>∃r1 r2,e = .returned (.tuple #[r1,r2,.bool true])/\IsLa w' r1 p/\IsLa w' r2 q/\Ext w w':=by
 have ap:=hd9 (fun(W:J)(hW:Ext w W)=>zau W p _ (h1.ext' hW) k1);have aq:=hd9 (fun(W:J)(hW:Ext w W)=>zau W q _ (h2.ext' hW) k2);rw[if_pos o1]at ap;rw[if_pos o2]at aq;have ar:=hd9 (fun(W:J)(hW:Ext w W)=>zaR W p _ (h1.ext' hW) o1 (av.ext hW));have au:=hd9 (fun(W:J)(hW:Ext w W)=>zaR W q _ (h2.ext' hW) o2 (av.ext hW));have H1:=hd9 h1;have H2:=hd9 h2;obtain⟨f,j,g,rfl⟩:=form3 h1;obtain⟨k,m,l,rfl⟩:=form3 h2;clear h1 h2 k1 k2 av o1 o2;unfold plc at ap aq ar au ⊢;unfold RetO lac at ar au;go_enter Tryz.func103,Tryz.ntmps103
 go_upto_region 3 with (first|(go_at_call 28;(with_reducible refine(ap.out _ ?_).mono ?_);exact eA;rintro e w5 ⟨rfl,aw⟩;obtain⟨aL,aO⟩:=aw.cells;(have z5:=aw.size);(try simp only[wZ]at z5);(have aT:w.heap.size<w5.heap.size:=oM);(have aU:w.heap.size+1<w5.heap.size:=oM))|(go_at_call 28;(with_reducible refine(aq.out _ ?_).mono ?_);exact eA;rintro e y ⟨rfl,ay⟩;obtain⟨aM,aP⟩:=ay.cells;(have z6:=ay.size);(try simp only[wZ]at z6);(have aV:w.heap.size<y.heap.size:=oM);(have aW:w.heap.size+1<y.heap.size:=oM)))
 have X0:Ext w y:=eA;clear X0;have A1:y.heap[w.heap.size]?=F (M #[.string p.name,X f j g,O Y p.depth,O Y p.density,O Y p.gx,O Y p.gz,O Y p.way,O Y p.ax,O Y p.az,O C p.skin] 47 (0,0)):=Ext.heapS (a:=w.alloc (M #[.string p.name,X f j g,O Y p.depth,O Y p.density,O Y p.gx,O Y p.gz,O Y p.way,O Y p.ax,O Y p.az,O C p.skin] 47)) eA (aN _ _);have A2:y.heap[w.heap.size+1]?=F (M #[.string q.name,X k m l,O Y q.depth,O Y q.density,O Y q.gx,O Y q.gz,O Y q.way,O Y q.ax,O Y q.az,O C q.skin] 47 (0,0)):=Ext.heapS (a:=(w.alloc (M #[.string p.name,X f j g,O Y p.depth,O Y p.density,O Y p.gx,O Y p.gz,O Y p.way,O Y p.ax,O Y p.az,O C p.skin] 47)).alloc (M #[.string q.name,X k m l,O Y q.depth,O Y q.density,O Y q.gx,O Y q.gz,O Y q.way,O Y q.ax,O Y q.az,O C q.skin] 47)) eA (qhA _ _ _ sM);have A3:y.heap[w.heap.size+1+1]?=F (M #[.string ⟨#[]⟩,X I 0 0,O Y 0,O Y 0,O Y 0,O Y 0,O Y 0,O Y 0,O Y 0,O C 0,X I 0 0,X I 0 0] 128 (0,0)):=Ext.heapS (a:=((w.alloc (M #[.string p.name,X f j g,O Y p.depth,O Y p.density,O Y p.gx,O Y p.gz,O Y p.way,O Y p.ax,O Y p.az,O C p.skin] 47)).alloc (M #[.string q.name,X k m l,O Y q.depth,O Y q.density,O Y q.gx,O Y q.gz,O Y q.way,O Y q.ax,O Y q.az,O C q.skin] 47)).alloc (M #[.string ⟨#[]⟩,X I 0 0,O Y 0,O Y 0,O Y 0,O Y 0,O Y 0,O Y 0,O Y 0,O C 0,X I 0 0,X I 0 0] 128)) eA (qhA _ _ _ sM);have A4:y.heap[w.heap.size+1+1+1]?=F (M #[.string ⟨#[]⟩,X I 0 0,O Y 0,O Y 0,O Y 0,O Y 0,O Y 0,O Y 0,O Y 0,O C 0,X I 0 0,X I 0 0] 128 (0,0)):=Ext.heapS (a:=(((w.alloc (M #[.string p.name,X f j g,O Y p.depth,O Y p.density,O Y p.gx,O Y p.gz,O Y p.way,O Y p.ax,O Y p.az,O C p.skin] 47)).alloc (M #[.string q.name,X k m l,O Y q.depth,O Y q.density,O Y q.gx,O Y q.gz,O Y q.way,O Y q.ax,O Y q.az,O C q.skin] 47)).alloc (M #[.string ⟨#[]⟩,X I 0 0,O Y 0,O Y 0,O Y 0,O Y 0,O Y 0,O Y 0,O Y 0,O C 0,X I 0 0,X I 0 0] 128)).alloc (M #[.string ⟨#[]⟩,X I 0 0,O Y 0,O Y 0,O Y 0,O Y 0,O Y 0,O Y 0,O Y 0,O C 0,X I 0 0,X I 0 0] 128)) eA (qhA _ _ _ sM);have X6:Ext w y:=eA;clear aL aO z5 aT aU aM aP z6 aV aW aw ay
 have hC:CellL [((⟨w.heap.size,0,I⟩:Addr),(.string p.name:E)),(⟨w.heap.size,1,I⟩,X f j g),(⟨w.heap.size,2,I⟩,O Y p.depth),(⟨w.heap.size,3,I⟩,O Y p.density),(⟨w.heap.size,4,I⟩,O Y p.gx),(⟨w.heap.size,5,I⟩,O Y p.gz),(⟨w.heap.size,6,I⟩,O Y p.way),(⟨w.heap.size,7,I⟩,O Y p.ax),(⟨w.heap.size,8,I⟩,O Y p.az),(⟨w.heap.size,9,I⟩,O C p.skin),(⟨w.heap.size+1,0,I⟩,.string q.name),(⟨w.heap.size+1,1,I⟩,X k m l),(⟨w.heap.size+1,2,I⟩,O Y q.depth),(⟨w.heap.size+1,3,I⟩,O Y q.density),(⟨w.heap.size+1,4,I⟩,O Y q.gx),(⟨w.heap.size+1,5,I⟩,O Y q.gz),(⟨w.heap.size+1,6,I⟩,O Y q.way),(⟨w.heap.size+1,7,I⟩,O Y q.ax),(⟨w.heap.size+1,8,I⟩,O Y q.az),(⟨w.heap.size+1,9,I⟩,O C q.skin)] y:=by
  refine⟨qcB A1 (i:=0) rfl,qcB A1 (i:=1) rfl,qcB A1 (i:=2) rfl,qcB A1 (i:=3) rfl,qcB A1 (i:=4) rfl,qcB A1 (i:=5) rfl,qcB A1 (i:=6) rfl,qcB A1 (i:=7) rfl,qcB A1 (i:=8) rfl,qcB A1 (i:=9) rfl,qcB A2 (i:=0) rfl,qcB A2 (i:=1) rfl,qcB A2 (i:=2) rfl,qcB A2 (i:=3) rfl,qcB A2 (i:=4) rfl,qcB A2 (i:=5) rfl,qcB A2 (i:=6) rfl,qcB A2 (i:=7) rfl,qcB A2 (i:=8) rfl,qcB A2 (i:=9) rfl,trivial⟩
 refine wp_region_held_drew (S:=CellL [((⟨w.heap.size,0,I⟩:Addr),(.string p.name:E)),(⟨w.heap.size,1,I⟩,X f j g),(⟨w.heap.size,2,I⟩,O Y p.depth),(⟨w.heap.size,3,I⟩,O Y p.density),(⟨w.heap.size,4,I⟩,O Y p.gx),(⟨w.heap.size,5,I⟩,O Y p.gz),(⟨w.heap.size,6,I⟩,O Y p.way),(⟨w.heap.size,7,I⟩,O Y p.ax),(⟨w.heap.size,8,I⟩,O Y p.az),(⟨w.heap.size,9,I⟩,O C p.skin),(⟨w.heap.size+1,0,I⟩,.string q.name),(⟨w.heap.size+1,1,I⟩,X k m l),(⟨w.heap.size+1,2,I⟩,O Y q.depth),(⟨w.heap.size+1,3,I⟩,O Y q.density),(⟨w.heap.size+1,4,I⟩,O Y q.gx),(⟨w.heap.size+1,5,I⟩,O Y q.gz),(⟨w.heap.size+1,6,I⟩,O Y q.way),(⟨w.heap.size+1,7,I⟩,O Y q.ax),(⟨w.heap.size+1,8,I⟩,O Y q.az),(⟨w.heap.size+1,9,I⟩,O C q.skin)]) kM hC (fun n=>?_);refine tk1 (i:=0) ?_;refine tk1 (i:=2) ?_;refine cl1 (i:=1) fun K t=>?_
 go_simp
 (with_reducible refine cM (ar.out _ X6.drew) ?_)
 rintro e w7 ⟨vl,vu,rfl,aH,aI,aJ⟩;obtain⟨⟨L,aa,R,rfl⟩,ac,ah,af,rfl⟩:=And.intro (form3 aH) (form3 aI)
 go_wp2_with fail
 refine kO t (cE n aJ) (fun n=>?_);clear t K;have X7:Ext y w7:=(eR y).drew.trans aJ;refine cl1 (i:=3) fun K t=>?_
 go_simp
 (with_reducible refine cM (au.out _ (X6.trans X7)) ?_)
 rintro e w8 ⟨aX,aY,rfl,an,ao,al⟩;obtain⟨⟨Q,ab,T,rfl⟩,ae,ai,ag,rfl⟩:=And.intro (form3 an) (form3 ao)
 go_wp2_with fail
 refine kO t (cE n al) (fun n=>?_);clear t K;have X8:Ext y w8:=X7.trans al;have r:=X8.heapS A3;have c:=X8.heapS A4;have x0:=qcB r (i:=0) (u:=.string ⟨#[]⟩) rfl;have x1:=qcB r (i:=1) (u:=X I 0 0) rfl;have x2:=qcB r (i:=2) (u:=O Y 0) rfl;have x3:=qcB r (i:=3) (u:=O Y 0) rfl;have x4:=qcB r (i:=4) (u:=O Y 0) rfl;have x5:=qcB r (i:=5) (u:=O Y 0) rfl;have x6:=qcB r (i:=6) (u:=O Y 0) rfl;have x7:=qcB r (i:=7) (u:=O Y 0) rfl;have x8:=qcB r (i:=8) (u:=O Y 0) rfl;have x9:=qcB r (i:=9) (u:=O C 0) rfl;have aA:=qcB r (i:=10) (u:=X I 0 0) rfl;have aB:=qcB r (i:=11) (u:=X I 0 0) rfl;have y0:=qcB c (i:=0) (u:=.string ⟨#[]⟩) rfl;have y1:=qcB c (i:=1) (u:=X I 0 0) rfl;have y2:=qcB c (i:=2) (u:=O Y 0) rfl;have y3:=qcB c (i:=3) (u:=O Y 0) rfl;have y4:=qcB c (i:=4) (u:=O Y 0) rfl;have y5:=qcB c (i:=5) (u:=O Y 0) rfl;have y6:=qcB c (i:=6) (u:=O Y 0) rfl;have y7:=qcB c (i:=7) (u:=O Y 0) rfl;have y8:=qcB c (i:=8) (u:=O Y 0) rfl;have y9:=qcB c (i:=9) (u:=O C 0) rfl;have aj:=qcB c (i:=10) (u:=X I 0 0) rfl;have ak:=qcB c (i:=11) (u:=X I 0 0) rfl;have xf:=qfB r;have yf:=qfB c
 have aG:∀b,w.heap.size+1<b->∀ad∈[((⟨w.heap.size,0,I⟩:Addr),(.string p.name:E)),(⟨w.heap.size,1,I⟩,X f j g),(⟨w.heap.size,2,I⟩,O Y p.depth),(⟨w.heap.size,3,I⟩,O Y p.density),(⟨w.heap.size,4,I⟩,O Y p.gx),(⟨w.heap.size,5,I⟩,O Y p.gz),(⟨w.heap.size,6,I⟩,O Y p.way),(⟨w.heap.size,7,I⟩,O Y p.ax),(⟨w.heap.size,8,I⟩,O Y p.az),(⟨w.heap.size,9,I⟩,O C p.skin),(⟨w.heap.size+1,0,I⟩,.string q.name),(⟨w.heap.size+1,1,I⟩,X k m l),(⟨w.heap.size+1,2,I⟩,O Y q.depth),(⟨w.heap.size+1,3,I⟩,O Y q.density),(⟨w.heap.size+1,4,I⟩,O Y q.gx),(⟨w.heap.size+1,5,I⟩,O Y q.gz),(⟨w.heap.size+1,6,I⟩,O Y q.way),(⟨w.heap.size+1,7,I⟩,O Y q.ax),(⟨w.heap.size+1,8,I⟩,O Y q.az),(⟨w.heap.size+1,9,I⟩,O C q.skin)],b≠ad.1.block:=by
  intro b hb ad hq;simp only[List.mem_cons,List.not_mem_nil,or_false]at hq
  rcases hq with rfl|rfl|rfl|rfl|rfl|rfl|rfl|rfl|rfl|rfl|rfl|rfl|rfl|rfl|rfl|rfl|rfl|rfl|rfl|rfl<;>(dsimp only;omega)
 have aQ:=aG (w.heap.size+1+1) oM;have aR:=aG (w.heap.size+1+1+1) oM;refine cl1 (i:=4) fun K t=>?_
 go_simp;refine kO t (by(iterate 12 refine CellL.set ?_ aQ _);exact n) (fun n=>?_);clear t K;clear x0 x1 x2 x3 x4 x5 x6 x7 x8 x9 aA aB y0 y1 y2 y3 y4 y5 y6 y7 y8 y9 aj ak xf yf;obtain⟨D,x⟩:=gX (stL w8 (w.heap.size+1+1) 0 [.string p.name,X f j g,O Y p.depth,O Y p.density,O Y p.gx,O Y p.gz,O Y p.way,O Y p.ax,O Y p.az,O C p.skin,X L aa R,X ac ah af]);have e9:((((((((((((w8.setCell ⟨w.heap.size+1+1,0,I⟩ (.string p.name)).setCell ⟨w.heap.size+1+1,1,I⟩ (X f j g)).setCell ⟨w.heap.size+1+1,2,I⟩ (O Y p.depth)).setCell ⟨w.heap.size+1+1,3,I⟩ (O Y p.density)).setCell ⟨w.heap.size+1+1,4,I⟩ (O Y p.gx)).setCell ⟨w.heap.size+1+1,5,I⟩ (O Y p.gz)).setCell ⟨w.heap.size+1+1,6,I⟩ (O Y p.way)).setCell ⟨w.heap.size+1+1,7,I⟩ (O Y p.ax)).setCell ⟨w.heap.size+1+1,8,I⟩ (O Y p.az)).setCell ⟨w.heap.size+1+1,9,I⟩ (O C p.skin)).setCell ⟨w.heap.size+1+1,10,I⟩ (X L aa R)).setCell ⟨w.heap.size+1+1,11,I⟩ (X ac ah af))=D:=x;rw[e9]at n ⊢;have aS:NoT 43 w8 (w.heap.size+1+1):=fun cs fr h=>by rw[r]at h;cases h
 have s:D.heap[w.heap.size+1+1]?=F (M #[.string p.name,X f j g,O Y p.depth,O Y p.density,O Y p.gx,O Y p.gz,O Y p.way,O Y p.ax,O Y p.az,O C p.skin,X L aa R,X ac ah af] 128 (0,0)):=by
  rw[<-x];exact zcE _ r rfl
 have D9:D.heap[w.heap.size+1+1+1]?=w8.heap[w.heap.size+1+1+1]?:=by
  rw[<-x];exact zaZ oM _ _ _
 have aF:KeepT 43 w8 D:=by
  rw[<-x];exact zaW _ _ aS
 have E9:∀v:J,Ext v w8->v.heap.size<=w.heap.size+1+1->Ext v D:=fun v XE hz=>by
  rw[<-x];exact zco hz _ _ XE
 clear e9 x;have c:=D9.trans c;have y0:=qcB c (i:=0) (u:=.string ⟨#[]⟩) rfl;have y1:=qcB c (i:=1) (u:=X I 0 0) rfl;have y2:=qcB c (i:=2) (u:=O Y 0) rfl;have y3:=qcB c (i:=3) (u:=O Y 0) rfl;have y4:=qcB c (i:=4) (u:=O Y 0) rfl;have y5:=qcB c (i:=5) (u:=O Y 0) rfl;have y6:=qcB c (i:=6) (u:=O Y 0) rfl;have y7:=qcB c (i:=7) (u:=O Y 0) rfl;have y8:=qcB c (i:=8) (u:=O Y 0) rfl;have y9:=qcB c (i:=9) (u:=O C 0) rfl;have aj:=qcB c (i:=10) (u:=X I 0 0) rfl;have ak:=qcB c (i:=11) (u:=X I 0 0) rfl;have yf:=qfB c;refine cl1 (i:=5) fun K t=>?_
 go_simp;refine kO t (by(iterate 12 refine CellL.set ?_ aR _);exact n) (fun n=>?_);clear t K;clear y0 y1 y2 y3 y4 y5 y6 y7 y8 y9 aj ak yf;obtain⟨z,o⟩:=gX (stL D (w.heap.size+1+1+1) 0 [.string q.name,X k m l,O Y q.depth,O Y q.density,O Y q.gx,O Y q.gz,O Y q.way,O Y q.ax,O Y q.az,O C q.skin,X Q ab T,X ae ai ag]);have aE:((((((((((((D.setCell ⟨w.heap.size+1+1+1,0,I⟩ (.string q.name)).setCell ⟨w.heap.size+1+1+1,1,I⟩ (X k m l)).setCell ⟨w.heap.size+1+1+1,2,I⟩ (O Y q.depth)).setCell ⟨w.heap.size+1+1+1,3,I⟩ (O Y q.density)).setCell ⟨w.heap.size+1+1+1,4,I⟩ (O Y q.gx)).setCell ⟨w.heap.size+1+1+1,5,I⟩ (O Y q.gz)).setCell ⟨w.heap.size+1+1+1,6,I⟩ (O Y q.way)).setCell ⟨w.heap.size+1+1+1,7,I⟩ (O Y q.ax)).setCell ⟨w.heap.size+1+1+1,8,I⟩ (O Y q.az)).setCell ⟨w.heap.size+1+1+1,9,I⟩ (O C q.skin)).setCell ⟨w.heap.size+1+1+1,10,I⟩ (X Q ab T)).setCell ⟨w.heap.size+1+1+1,11,I⟩ (X ae ai ag))=z:=o;rw[aE]at n ⊢;have aK:NoT 43 D (w.heap.size+1+1+1):=fun cs fr h=>by rw[c]at h;cases h
 have d:z.heap[w.heap.size+1+1+1]?=F (M #[.string q.name,X k m l,O Y q.depth,O Y q.density,O Y q.gx,O Y q.gz,O Y q.way,O Y q.ax,O Y q.az,O C q.skin,X Q ab T,X ae ai ag] 128 (0,0)):=by
  rw[<-o];exact zcE _ c rfl
 have aC:z.heap[w.heap.size+1+1]?=D.heap[w.heap.size+1+1]?:=by
  rw[<-o];exact zaZ oM _ _ _
 have am:KeepT 43 D z:=by
  rw[<-o];exact zaW _ _ aK
 have aD:∀v:J,Ext v D->v.heap.size<=w.heap.size+1+1+1->Ext v z:=fun v XE hz=>by
  rw[<-o];exact zco hz _ _ XE
 clear aE o;have s:=aC.trans s;refine tk1 (i:=6) ?_;refine wpAnyH_done kM ?_ _;have x0:=qcB s (i:=0) (u:=.string p.name) rfl;have x1:=qcB s (i:=1) (u:=X f j g) rfl;have x2:=qcB s (i:=2) (u:=O Y p.depth) rfl;have x3:=qcB s (i:=3) (u:=O Y p.density) rfl;have x4:=qcB s (i:=4) (u:=O Y p.gx) rfl;have x5:=qcB s (i:=5) (u:=O Y p.gz) rfl;have x6:=qcB s (i:=6) (u:=O Y p.way) rfl;have x7:=qcB s (i:=7) (u:=O Y p.ax) rfl;have x8:=qcB s (i:=8) (u:=O Y p.az) rfl;have x9:=qcB s (i:=9) (u:=O C p.skin) rfl;have aA:=qcB s (i:=10) (u:=X L aa R) rfl;have aB:=qcB s (i:=11) (u:=X ac ah af) rfl;have y0:=qcB d (i:=0) (u:=.string q.name) rfl;have y1:=qcB d (i:=1) (u:=X k m l) rfl;have y2:=qcB d (i:=2) (u:=O Y q.depth) rfl;have y3:=qcB d (i:=3) (u:=O Y q.density) rfl;have y4:=qcB d (i:=4) (u:=O Y q.gx) rfl;have y5:=qcB d (i:=5) (u:=O Y q.gz) rfl;have y6:=qcB d (i:=6) (u:=O Y q.way) rfl;have y7:=qcB d (i:=7) (u:=O Y q.ax) rfl;have y8:=qcB d (i:=8) (u:=O Y q.az) rfl;have y9:=qcB d (i:=9) (u:=O C q.skin) rfl;have aj:=qcB d (i:=10) (u:=X Q ab T) rfl;have ak:=qcB d (i:=11) (u:=X ae ai ag) rfl;have xf:=qfB s;have yf:=qfB d;have XE:=aD w (E9 w (X6.trans X8) oM) oM;have t:=aF.trans am;have P:=hd9 (And.intro XE t);clear E9 aD aF am XE t D9 aC;go_wp2;refine bR (v:=.tuple #[.agg #[.string p.name,X f j g,O Y p.depth,O Y p.density,O Y p.gx,O Y p.gz,O Y p.way,O Y p.ax,O Y p.az,O C p.skin,X L aa R,X ac ah af],.agg #[.string q.name,X k m l,O Y q.depth,O Y q.density,O Y q.gx,O Y q.gz,O Y q.way,O Y q.ax,O Y q.az,O C q.skin,X Q ab T,X ae ai ag],.bool true]) (by simp[results,Tryz.results103,go_sem,x0,x1,x2,x3,x4,x5,x6,x7,x8,x9,aA,aB,xf,y0,y1,y2,y3,y4,y5,y6,y7,y8,y9,aj,ak,yf]) rfl ?_;have XW:=X6.trans X8;exact⟨_,_,rfl,⟨_,_,_,rfl,(H1.out.ext' XW).keep' P.out.2,(aH.ext' al).keep' P.out.2,(aI.ext' al).keep' P.out.2⟩,⟨_,_,_,rfl,(H2.out.ext' XW).keep' P.out.2,an.keep' P.out.2,ao.keep' P.out.2⟩,P.out.1⟩
end
section
open Go.RowKit Go.Shelf Go.Sort Go.Lib
def PI(_:J)(c:List E)(z:Int):Prop:=c=[O Y z]
abbrev IsIs(w:J)(v:E)(zs:List Int):Prop:=Sl 3 1 PI w v zs
theorem IsIs.ext'{w w':J}{v:E}{zs:List Int}(h:IsIs w v zs)(k:Ext w w'):IsIs w' v zs:=Sl.ext h (fun _ _ h=>h) k
theorem IsIs.at'{w:J}{a:Option Addr}{n c:Nat}{zs:List Int}(h:IsIs w (X a n c) zs){i:Nat}{z:Int}(g:zs[i]?=F z) :
  ∃b o,a=F ⟨b,o,I⟩/\b<w.heap.size/\w.cell? ⟨b,o+i,I⟩=F (O Y z):=by
 obtain⟨b,o,d,rfl,e,j,rfl,f⟩:=Sl.at h g;have:=f 0 _ rfl;rw[Nat.mul_one,Nat.add_zero]at this;exact⟨b,o,rfl,e,this⟩
end
section
open Go.RowKit Go.Shelf Go.Sort
theorem zj0(W:J){k:Nat}(d:k=W.heap.size)(ps:LP)(e:ps.length<=1000) :
  IsPts (W.alloc (M (ps.map pc).flatten.toArray 43)) (X (F ⟨k,0,I⟩) ps.length ps.length) ps:=by
 subst d
 exact⟨ps.map pc,by simp,zfD,⟨by rw[zar zfD];simp,F ⟨W.heap.size,0,I⟩,ps.length,rfl,nE _,by unfold maxLen;omega,.inr ⟨W.heap.size,0,_,(0,0),rfl,aN _ _,fun i x a=>by simpa using a⟩⟩,
  fun i c x b a=>by rw[lP,a]at b;cases b;rfl⟩
theorem zjS(W:J){k base:Nat}(m:k=W.heap.size)(l:base<=W.heap.size)(b:List (Pl×E))(n:∀q∈b,IsPts W q.2 q.1.shape/\0<=q.1.skin)(o:b.length<=1000) :
  OwnPl (W.alloc (M (b.map fun q=>(plc q.1 q.2).toList).flatten.toArray 47)) base (X (F ⟨k,0,I⟩) b.length b.length) (b.map Prod.fst):=by
 subst m
 have d:∀c∈(b.map fun q=>(plc q.1 q.2).toList),c.length=10:=fun c g=>by
  obtain⟨q,_,rfl⟩:=List.mem_map.1 g;rfl
 have a:=zar d;rw[lL]at a;refine⟨b.map fun q=>(plc q.1 q.2).toList,⟨d,by rw[a,lL],.inr ⟨W.heap.size,b.length,_,by rw[lL],l,aN _ _,by rw[lL];exact nE _,by unfold maxLen;omega,by rw[List.size_toArray,a],by rw[lL,<-a];exact List.take_length⟩⟩,by simp,?_⟩;intro i c x g j;rw[lP,Option.map_eq_some_iff]at g j;obtain⟨q,e,rfl⟩:=g;obtain⟨p,f,rfl⟩:=j;rw[e]at f
 cases f
 have:=n q (lM e);exact⟨q.2,rfl,this.1.ext' ((eR W).alloc _),this.2⟩
def brickS:LP:=[(0,0),(200,0),(200,80),(0,80)]
theorem zhL(w:J):Calls Tryz.prog 123 #[] w fun e a=>∃v,e = .returned (.agg #[.string ⟨#[98,114,105,99,107]⟩,v,O Y 100,O Y 2400,O Y 1,O Y 0])/\IsPts a v brickS/\Ext w a:=by
 go_enter Tryz.func123,Tryz.ntmps123;go_wp2;refine bR (v:=.agg #[.string ⟨#[98,114,105,99,107]⟩,X (F ⟨w.heap.size+1,0,I⟩) 4 4,O Y 100,O Y 2400,O Y 1,O Y 0]) (by simp[results,Tryz.results123,go_sem]) rfl ⟨_,rfl,?_,eA⟩;exact zj0 _ sM brickS dM
def brickP(a:ByteArray)(x z:Int):Pl:=⟨a,brickS,100,2400,1,0,0,x,z,1⟩
def exG:LP:=[(-1000,0),(1000,0)]
theorem zav{W:J}{b:Nat}{cs:Array E}{T:TypeId}{a:Nat×Nat}(h:W.heap[b]?=F (M cs T a))(i:Nat)(u:E):(W.setCell ⟨b,i,I⟩ u).heap[b]?=F (M (cs.setIfInBounds i u) T a):=by
 simp[World.setCell,Array.getElem?_modify,h]
end
section
open Go.RowKit Go.Shelf
attribute [local go_sem] Oper.semAt_some
theorem zjf(w:J)(v:E)(q:Rat)(h:IsQ w v q)(u:Rb limT q) :
  Calls Tryz.prog 98 #[v] w fun e w'=>e = .returned (.string ⟨(textR q).toArray⟩)/\Ext w w':=by
 obtain⟨s,a,m,c,s2,a2,m2,c2,rfl⟩:=h.form;have P:=hd9 (fun(W:J)(R:Ext w W)=>zev W (.agg #[O Y s,X a m c]) q.num (h.top.ext R) u.1);have L:=hd9 (fun(W:J)(R:Ext w W)=>zaU W _ q (h.ext R));have p:=hd9 (fun(W:J)(v:E)(hv:IsN W v (q.den:Int))=>zev W v (q.den:Int) hv u.2);have l1:=zbA u.1;have l2:=zbA u.2;obtain⟨T,k⟩:=gX (textR q);rw[k];unfold textR at k;have b:(q.den=1->textZ (q.den:Int)=[49])/\(q.den≠1->textZ (q.den:Int)≠[49]):=⟨fun e=>by rw[e];exact zkr,zlO⟩;obtain⟨T1,r⟩:=gX (textZ q.num);obtain⟨Q,t⟩:=gX (textZ (q.den:Int));rw[r]at P l1 k;rw[t]at p l2 k b;unfold limT at l1 l2;obtain⟨d,hd⟩:=gX q.den;rw[hd]at L p b k;clear r t hd h u
 by_cases o:d=1
 ·obtain rfl:Q=[49]:=b.1 o
  rw[if_pos o]at k;subst k;clear o b;go_enter Tryz.func98,Tryz.ntmps98
  go_wp2_with(first|(go_at_call 81;(with_reducible refine(L.out _ ?_).mono ?_);exact eA;rintro e w1 ⟨r1,rfl,g,j⟩;obtain⟨s1,a1,m1,c1,rfl,-⟩:=g.form2;obtain⟨aa,ac⟩:=j.cells)|(go_at_call 168;(with_reducible refine(p.out _ _ g).mono ?_);rintro e w2 ⟨rfl,n⟩;obtain⟨ab,ad⟩:=n.cells;(have z1:=j.size);(simp only[wZ]at z1);(have z2:w.heap.size<w1.heap.size:=oM))|(go_at_call 168;(with_reducible refine(P.out _ ?_).mono ?_);exact eA;rintro e w3 ⟨rfl,af⟩))
  go_ret;exact⟨rfl,eA⟩
 ·have ae:(Q==[49])=false:=by simpa using b.2 o
  rw[if_neg o]at k;clear o b;go_enter Tryz.func98,Tryz.ntmps98;have g1:¬9223372036854775807<T1.length+1:=oM
  have g2:¬9223372036854775807<T1.length+1+Q.length:=oM
  go_upto_region 3 with (first|(go_at_call 81;(with_reducible refine(L.out _ ?_).mono ?_);exact eA;rintro e w1 ⟨r1,rfl,g,j⟩;obtain⟨s1,a1,m1,c1,rfl,-⟩:=g.form2;obtain⟨aa,ac⟩:=j.cells)|(go_at_call 168;(with_reducible refine(p.out _ _ g).mono ?_);rintro e w2 ⟨rfl,n⟩;obtain⟨ab,ad⟩:=n.cells;(have z1:=j.size);(simp only[wZ]at z1);(have z2:w.heap.size<w1.heap.size:=oM)))
  have X2:Ext w w2:=eA;refine wp_region_held_drew (S:=CellL [(⟨w.heap.size,0,I⟩,O Y s),(⟨w.heap.size,1,I⟩,X a m c),(⟨w.heap.size,2,I⟩,O Y s2),(⟨w.heap.size,3,I⟩,X a2 m2 c2)]) kM cA (fun f=>?_);refine sN 0 ?_
  iterate 2
   refine tkn ?_
  refine oN ?_;refine tk1 (i:=4) ?_;refine cl1 (i:=2) fun K l=>?_
  go_simp
  (with_reducible refine cM (P.out _ X2.drew) ?_)
  rintro e w5 ⟨rfl,y⟩
  skip
  go_wp2_with fail
  refine kO l (cE f y) (fun f=>?_);clear l K;have X5:Ext w w5:=X2.drew.trans y;refine tk1 (i:=3) ?_;refine cl1 (i:=5) fun K l=>?_
  go_simp
  (with_reducible refine cM (L.out _ X5) ?_)
  rintro e w6 ⟨r6,rfl,x,z⟩;obtain⟨s6,a6,m6,c6,rfl,-⟩:=x.form2
  go_wp2_with fail
  refine kO l (cE f z) (fun f=>?_);clear l K;have X6:Ext w w6:=X5.trans z;refine cl1 (i:=6) fun K l=>?_
  go_simp
  (with_reducible refine cM (p.out _ _ x) ?_)
  rintro e w7 ⟨rfl,D⟩
  skip
  go_wp2_with fail
  refine kO l (cE f D) (fun f=>?_);clear l K;refine sN 7 ?_
  iterate 2
   refine tkn ?_
  refine oN ?_;refine wpAnyH_done kM ?_ _;go_wp2;go_ret;exact⟨by rw[<-k,show (⟨#[47]⟩:ByteArray)=⟨[47].toArray⟩from rfl,za1,za1];simp,X6.trans D⟩
theorem zhn(w:J)(va vb:E)(q:Rat)(p:IsR w va q)(r:IsQ w vb q)(t:Rb limT q) :
  Calls Tryz.prog 35 #[va,vb] w fun e w'=>e = .returned (.bool true)/\Ext w w':=by
 obtain⟨s,a,m,c,s2,y,Q,D,rfl⟩:=r.form;obtain⟨x,P,z,R,f,l,g,rfl⟩:=p.form;have u:=hd9 (fun(W:J)(o:Ext w W)=>zd1 W _ q (p.ext o) t);have v:=hd9 (fun(W:J)(o:Ext w W)=>zjf W _ q (r.ext o) t);obtain⟨T,L⟩:=gX (textR q);rw[L]at u v;clear p r t L;go_enter Tryz.func35,Tryz.ntmps35
 go_upto_region 1 with fail
 have n:Ext w ((w.alloc (M #[X x P z,.bool R,X f l g] 63)).alloc (M #[O Y s,X a m c,O Y s2,X y Q D] 68)):=((eR w).alloc _).alloc _;refine wp_region_held_drew (S:=CellL [(⟨w.heap.size,0,I⟩,X x P z),(⟨w.heap.size,1,I⟩,.bool R),(⟨w.heap.size,2,I⟩,X f l g),(⟨w.heap.size+1,0,I⟩,O Y s),(⟨w.heap.size+1,1,I⟩,X a m c),(⟨w.heap.size+1,2,I⟩,O Y s2),(⟨w.heap.size+1,3,I⟩,X y Q D)]) kM cA (fun b=>?_);refine tk1 (i:=0) ?_;refine tk1 (i:=2) ?_;refine cl1 (i:=1) fun K j=>?_
 go_simp
 (with_reducible refine cM (u.out _ n.drew) ?_)
 rintro e w1 ⟨rfl,d⟩
 skip
 go_wp2_with fail
 refine kO j (cE b d) (fun b=>?_);clear j K;refine cl1 (i:=3) fun K j=>?_
 go_simp
 (with_reducible refine cM (v.out _ (n.drew.trans d)) ?_)
 rintro e w2 ⟨rfl,k⟩
 skip
 go_wp2_with fail
 refine kO j (cE b k) (fun b=>?_);clear j K;refine sN 4 ?_
 iterate 2
  refine tkn ?_
 refine oN ?_;refine wpAnyH_done kM ?_ _;go_wp2;go_ret;exact⟨rfl,(n.drew.trans d).trans k⟩
end
end Go.Proofs.YtjnjpagegkcgfaaGreatDoor.Cop
